-- written by xprint.py, a program of this session over the kit's print
import Derived.Test.YtbfdpodlnijeoaaX0
import Derived.Test.YtbfdpodlnijeoaaX3
import Derived.Test.YtbfdpodlnijeoaaX5
import Derived.Test.YtbfdpodlnijeoaaX6
import Derived.Test.YtbfdpodlnijeoaaX11
namespace Go.Proofs.Ytbfdpodlnijeoaa.X
open Go.RowKit Go.Proofs.YtbfdpodlnijeoaaW.PrintWords Go.Proofs.YtbfdpodlnijeoaaW.PrintLast Go.Proofs.YtbfdpodlnijeoaaW.PrintMore
attribute [local go_sem] max2_int min2_int max_two min_two max_three min_three max_four min_four   -- for this text's walks alone
set_option linter.unusedVariables false
set_option linter.unusedSimpArgs false

/-! ### lease_Step: function 14 -/
theorem fld_14_23_0 (c0 c1 c2 : Value) (w : World) : Sem.run Try.prog (Instr.field 23 (.agg #[c0, c1, c2]) 0) w = .ok (c0) w := by kernel_rfl
attribute [local go_sem] fld_14_23_0
theorem fld_14_23_1 (c0 c1 c2 : Value) (w : World) : Sem.run Try.prog (Instr.field 23 (.agg #[c0, c1, c2]) 1) w = .ok (c1) w := by kernel_rfl
attribute [local go_sem] fld_14_23_1
theorem fld_14_23_2 (c0 c1 c2 : Value) (w : World) : Sem.run Try.prog (Instr.field 23 (.agg #[c0, c1, c2]) 2) w = .ok (c2) w := by kernel_rfl
attribute [local go_sem] fld_14_23_2
attribute [local go_sem] ifv_guard ifv_nil ifv_as1 ifv_as2 ifv_as3 ifv_as4 ifv_no1 ifv_no2 ifv_no3
def lease_Step.f (k : Nat) (a0_0 : Int) (a0_1 : Int) (a0_2 : Int) (a0_3 : Int) (a0_4 : Int) (a0_5 : Int) (a0_6 : Int) (l0_7 : List Int) (a1_0 : Int) (a1_1 : Int) (a1_2 : Int) (a1_3 : Int) : Option (Int × Int × Int × Int × Int × Int × Int × List Int × Int × Int) := (lease_Check.f k a0_0 a0_1 a0_2 a0_3 a0_4 a0_5 a0_6 l0_7).bind fun t166 => (if t166 = 0 then ((lease_read.f k a1_0 a1_1 a1_2 a1_3).bind fun bt167 => (if bt167.1 = 0 then (some (0, 0, 0, 0, 0, 0, 0, ([] : List Int), 0, 8)) else ((lease_take_host.f bt167.1 bt167.2.1 bt167.2.2).bind fun t170 => (if t170 ≥ (l0_7.length : Int) then (some (0, 0, 0, 0, 0, 0, 0, ([] : List Int), 0, 2)) else ((bucket_Refill.f k a0_0 a0_1 a0_2 a0_3 a0_4 a0_5 a1_2).bind fun bt171 => (if bt171.2.2.2.2.2.2 = 0 then ((slices_Clone_int64.f l0_7).bind fun t179 => (if 0 ≤ t170 then (if t170 < (t179.length : Int) then (if bt167.1 = 1 then (some (bt171.1, bt171.2.1, bt171.2.2.1, wrap64 (bt171.2.2.2.1 - (mn (mn a0_6 bt171.2.2.2.1) (wrap64 (1000000000000 - (rd t179 t170))))), bt171.2.2.2.2.1, bt171.2.2.2.2.2.1, a0_6, (t179.set (t170 : Int).toNat (wrap64 ((rd t179 t170) + (mn (mn a0_6 bt171.2.2.2.1) (wrap64 (1000000000000 - (rd t179 t170))))))), mn (mn a0_6 bt171.2.2.2.1) (wrap64 (1000000000000 - (rd t179 t170))), 0)) else (if bt167.1 = 2 then (if (rd t179 t170) < bt167.2.2 then (some (bt171.1, bt171.2.1, bt171.2.2.1, bt171.2.2.2.1, bt171.2.2.2.2.1, bt171.2.2.2.2.2.1, a0_6, t179, (-1), 0)) else (some (bt171.1, bt171.2.1, bt171.2.2.1, bt171.2.2.2.1, bt171.2.2.2.2.1, bt171.2.2.2.2.2.1, a0_6, (t179.set (t170 : Int).toNat (wrap64 ((rd t179 t170) - bt167.2.2))), bt167.2.2, 0))) else (if bt167.1 = 3 then ((some (t179.set (t170 : Int).toNat 0 : List Int)).bind fun y191 => (if (mn bt171.1 (wrap64 (bt171.2.2.2.1 + (rd t179 t170)))) = bt171.1 then (some (bt171.1, bt171.2.1, bt171.2.2.1, mn bt171.1 (wrap64 (bt171.2.2.2.1 + (rd t179 t170))), 0, bt171.2.2.2.2.2.1, a0_6, y191, rd t179 t170, 0)) else (some (bt171.1, bt171.2.1, bt171.2.2.1, mn bt171.1 (wrap64 (bt171.2.2.2.1 + (rd t179 t170))), bt171.2.2.2.2.1, bt171.2.2.2.2.2.1, a0_6, y191, rd t179 t170, 0)))) else (some (bt171.1, bt171.2.1, bt171.2.2.1, bt171.2.2.2.1, bt171.2.2.2.2.1, bt171.2.2.2.2.2.1, a0_6, (t179.set (t170 : Int).toNat 0), rd t179 t170, 0))))) else (none)) else (none))) else (some (0, 0, 0, 0, 0, 0, 0, ([] : List Int), 0, bt171.2.2.2.2.2.2)))))))) else (some (0, 0, 0, 0, 0, 0, 0, ([] : List Int), 0, t166)))
theorem lease_Step.mono : ∀ a0 a1 a2 a3 a4 a5 a6 a7 a8 a9 a10 a11 k, LeO (lease_Step.f k a0 a1 a2 a3 a4 a5 a6 a7 a8 a9 a10 a11) (lease_Step.f (k + 1) a0 a1 a2 a3 a4 a5 a6 a7 a8 a9 a10 a11) := by
  intro a0 a1 a2 a3 a4 a5 a6 a7 a8 a9 a10 a11 k
  unfold lease_Step.f
  repeat' first
      | (with_reducible exact bucket_Refill.mono _ _ _ _ _ _ _ _)
      | (with_reducible exact lease_Check.mono _ _ _ _ _ _ _ _ _)
      | (with_reducible exact lease_read.mono _ _ _ _ _)
      | (with_reducible exact LeO.refl _)
      | (with_reducible exact LeO.none _)
      | (with_reducible refine LeO.ite ?_ ?_)
      | (with_reducible refine LeO.bind ?_ (fun _ => ?_))
      | exact bucket_Refill.mono _ _ _ _ _ _ _ _
      | exact lease_Check.mono _ _ _ _ _ _ _ _ _
      | exact lease_read.mono _ _ _ _ _
      | exact LeO.none _
      | refine LeO.ite ?_ ?_
      | refine LeO.bind ?_ (fun _ => ?_)
def lease_Step.T13 : Bool × List (List Nat × List Nat) := (true, [([], []), ([], []), ([1], [1]), ([], []), ([3], [3]), ([4], [4]), ([0, 2, 5], [0, 2, 5]), ([], []), ([7, 6, 5, 0, 1, 2, 3, 4, 5, 6, 7], [6, 7])])
def lease_Step.B13 : List Nat := [0, 0, 2, 0, 8, 24, 63, 0, 255]
theorem lease_Step.tab13 : rtab .any (opsOf Try.f14 13) = lease_Step.T13 := by kernel_rfl
theorem lease_Step.bits13 : waitsOk lease_Step.T13.2 lease_Step.B13 = true := by kernel_rfl
def lease_Step.T26 : Bool × List (List Nat × List Nat) := (true, [([], []), ([0], [0]), ([], []), ([1, 2], [1, 2]), ([3], [3]), ([], []), ([5], [5]), ([4, 6], [4, 6]), ([1, 2, 0, 1, 2, 3, 4, 5, 6, 7], [1, 2]), ([8, 7, 0, 1, 2, 3, 4, 5, 6, 7], [7, 8])])
def lease_Step.B26 : List Nat := [0, 1, 0, 7, 15, 0, 32, 127, 255, 511]
theorem lease_Step.tab26 : rtab .any (opsOf Try.f14 26) = lease_Step.T26 := by kernel_rfl
theorem lease_Step.bits26 : waitsOk lease_Step.T26.2 lease_Step.B26 = true := by kernel_rfl
set_option maxHeartbeats 40000000 in
set_option maxRecDepth 100000 in
theorem lease_Step.calls (k : Nat) (a0_0 : Int) (a0_1 : Int) (a0_2 : Int) (a0_3 : Int) (a0_4 : Int) (a0_5 : Int) (a0_6 : Int) (A0_7 : Option Addr) (c0_7 : Nat) (l0_7 : List Int) (a1_0 : Int) (a1_1 : Int) (a1_2 : Int) (a1_3 : Int) (r1 : Int) (r2 : Int) (r3 : Int) (r4 : Int) (r5 : Int) (r6 : Int) (r7 : Int) (r8 : List Int) (r9 : Int) (r10 : Int) (w : World) (hr0_7 : Kd.C (Kd.int .i64) w A0_7 l0_7.length l0_7) (hc0_7 : l0_7.length ≤ c0_7) (h : lease_Step.f k a0_0 a0_1 a0_2 a0_3 a0_4 a0_5 a0_6 l0_7 a1_0 a1_1 a1_2 a1_3 = some (r1, r2, r3, r4, r5, r6, r7, r8, r9, r10)) :
  Calls Try.prog 14 #[.agg #[.int .i64 a0_0, .int .i64 a0_1, .int .i64 a0_2, .int .i64 a0_3, .int .i64 a0_4, .int .u64 a0_5, .int .i64 a0_6, .slice A0_7 l0_7.length c0_7], .agg #[.int .u8 a1_0, .int .i64 a1_1, .int .u64 a1_2, .int .i64 a1_3]] w fun e w' => ∃ v7_ : Value, e = .returned (.tuple #[.agg #[.int .i64 r1, .int .i64 r2, .int .i64 r3, .int .i64 r4, .int .i64 r5, .int .u64 r6, .int .i64 r7, v7_], .int .i64 r9, .int .i64 r10]) ∧ Kd.R (Kd.int .i64) 2 w' w.heap.size (fun _ => True) v7_ r8 ∧ Below w.heap.size w w' := by
 have hu29 := Try.underlying29
 have hu31 := Try.underlying31
 have hu26 := Try.underlying26
 have hu74 := Try.underlying74
 have hu76 := Try.underlying76
 have hu77 := Try.underlying77
 have hu78 := Try.underlying78
 have HR0_7 := Aside0.mk hr0_7
 have HC0_7 := Aside0.mk hc0_7
 clear hr0_7 hc0_7
 have HB := Aside0.mk (Below.refl w.heap.size w)
 have H : ((lease_Check.f k a0_0 a0_1 a0_2 a0_3 a0_4 a0_5 a0_6 l0_7).bind fun t166 => (if t166 = 0 then ((lease_read.f k a1_0 a1_1 a1_2 a1_3).bind fun bt167 => (if bt167.1 = 0 then (some (0, 0, 0, 0, 0, 0, 0, ([] : List Int), 0, 8)) else ((lease_take_host.f bt167.1 bt167.2.1 bt167.2.2).bind fun t170 => (if t170 ≥ (l0_7.length : Int) then (some (0, 0, 0, 0, 0, 0, 0, ([] : List Int), 0, 2)) else ((bucket_Refill.f k a0_0 a0_1 a0_2 a0_3 a0_4 a0_5 a1_2).bind fun bt171 => (if bt171.2.2.2.2.2.2 = 0 then ((slices_Clone_int64.f l0_7).bind fun t179 => (if 0 ≤ t170 then (if t170 < (t179.length : Int) then (if bt167.1 = 1 then (some (bt171.1, bt171.2.1, bt171.2.2.1, wrap64 (bt171.2.2.2.1 - (mn (mn a0_6 bt171.2.2.2.1) (wrap64 (1000000000000 - (rd t179 t170))))), bt171.2.2.2.2.1, bt171.2.2.2.2.2.1, a0_6, (t179.set (t170 : Int).toNat (wrap64 ((rd t179 t170) + (mn (mn a0_6 bt171.2.2.2.1) (wrap64 (1000000000000 - (rd t179 t170))))))), mn (mn a0_6 bt171.2.2.2.1) (wrap64 (1000000000000 - (rd t179 t170))), 0)) else (if bt167.1 = 2 then (if (rd t179 t170) < bt167.2.2 then (some (bt171.1, bt171.2.1, bt171.2.2.1, bt171.2.2.2.1, bt171.2.2.2.2.1, bt171.2.2.2.2.2.1, a0_6, t179, (-1), 0)) else (some (bt171.1, bt171.2.1, bt171.2.2.1, bt171.2.2.2.1, bt171.2.2.2.2.1, bt171.2.2.2.2.2.1, a0_6, (t179.set (t170 : Int).toNat (wrap64 ((rd t179 t170) - bt167.2.2))), bt167.2.2, 0))) else (if bt167.1 = 3 then ((some (t179.set (t170 : Int).toNat 0 : List Int)).bind fun y191 => (if (mn bt171.1 (wrap64 (bt171.2.2.2.1 + (rd t179 t170)))) = bt171.1 then (some (bt171.1, bt171.2.1, bt171.2.2.1, mn bt171.1 (wrap64 (bt171.2.2.2.1 + (rd t179 t170))), 0, bt171.2.2.2.2.2.1, a0_6, y191, rd t179 t170, 0)) else (some (bt171.1, bt171.2.1, bt171.2.2.1, mn bt171.1 (wrap64 (bt171.2.2.2.1 + (rd t179 t170))), bt171.2.2.2.2.1, bt171.2.2.2.2.2.1, a0_6, y191, rd t179 t170, 0)))) else (some (bt171.1, bt171.2.1, bt171.2.2.1, bt171.2.2.2.1, bt171.2.2.2.2.1, bt171.2.2.2.2.2.1, a0_6, (t179.set (t170 : Int).toNat 0), rd t179 t170, 0))))) else (none)) else (none))) else (some (0, 0, 0, 0, 0, 0, 0, ([] : List Int), 0, bt171.2.2.2.2.2.2)))))))) else (some (0, 0, 0, 0, 0, 0, 0, ([] : List Int), 0, t166)))) = some (r1, r2, r3, r4, r5, r6, r7, r8, r9, r10) := h
 clear h
 have H0_ := bo_ H; clear H; obtain ⟨t166, A3, H⟩ := H0_
 try dsimp only at H
 by_cases c4 : t166 = 0
 ·rw [if_pos c4] at H
  have c4b0 : (t166 == 0) = true := beq_iff_eq.mpr c4
  have c4b1 : (t166 != 0) = false := bne_eq_false_iff_eq.mpr c4
  clear c4
  have H0_ := bo_ H; clear H; obtain ⟨⟨t167, t168, t169⟩, A5, H⟩ := H0_
  try dsimp only at H
  by_cases c6 : t167 = 0
  ·rw [if_pos c6] at H
   have c6b0 : (t167 == 0) = true := beq_iff_eq.mpr c6
   have c6b1 : (t167 != 0) = false := bne_eq_false_iff_eq.mpr c6
   clear c6
   simp only [Option.some.injEq, Prod.mk.injEq] at H
   obtain ⟨rfl, rfl, rfl, rfl, rfl, rfl, rfl, rfl, rfl, rfl⟩ := H
   go_enter Try.func14, Try.ntmps14
   go_wp2_with (first | ((with_reducible refine gate_dst (N := 2) rfl ?_); refine bx_ #[.int .i64 a0_0, .int .i64 a0_1, .int .i64 a0_2, .int .i64 a0_3, .int .i64 a0_4, .int .u64 a0_5, .int .i64 a0_6, .slice A0_7 l0_7.length c0_7] 29 ?_; intro gb163 hg w7 BK163 hb; have GW163 := bz_ w hg; have GE163 := GW163; replace HB := bs_ w hb; clear hb hg) | ((with_reducible refine gate_dst (N := 3) rfl ?_); refine bx_ #[.int .u8 a1_0, .int .i64 a1_1, .int .u64 a1_2, .int .i64 a1_3] 31 ?_; intro gb164 hg w8 BK164 hb; have GW164 := bz_ w hg; have GE164 := GW164; have NB163_164 := bn_ BK163 hg; have NB164_163 := bm_ BK163 hg; replace BK163 := bb_ BK163 hb; replace HB := bs_ w hb; clear hb hg) | ((with_reducible refine gate_dst (N := 4) rfl ?_); refine bx_ #[.int .i64 0, .int .i64 0, .int .i64 0, .int .i64 0, .int .i64 0, .int .u64 0, .int .i64 0, .slice none 0 0] 29 ?_; intro gb165 hg w9 BK165 hb; have GW165 := bz_ w hg; have GE165 := GW165; have NB163_165 := bn_ BK163 hg; have NB165_163 := bm_ BK163 hg; have NB164_165 := bn_ BK164 hg; have NB165_164 := bm_ BK164 hg; replace BK163 := bb_ BK163 hb; replace BK164 := bb_ BK164 hb; replace HB := bs_ w hb; clear hb hg; replace hn163_164 := NB163_164.out; replace hn164_163 := NB164_163.out; replace hn163_165 := NB163_165.out; replace hn165_163 := NB165_163.out; replace hc163 := ce8_ BK163) | ((with_reducible refine gate_callee (f := 27) rfl ?_); refine goesA_ (some 19) Try.func27 #[.agg #[.int .i64 a0_0, .int .i64 a0_1, .int .i64 a0_2, .int .i64 a0_3, .int .i64 a0_4, .int .u64 a0_5, .int .i64 a0_6, .slice A0_7 l0_7.length c0_7]] ?_; (with_reducible refine (lease_Check.calls k a0_0 a0_1 a0_2 a0_3 a0_4 a0_5 a0_6 _ _ l0_7 t166 _ ?side1 ?side2 A3.out).mono ?_); (case side1 => exact cs_ HR0_7 HB); (case side2 => exact HC0_7.out); rintro e w13 ⟨rfl, hb⟩; refine ⟨_, rfl, ?_⟩; replace BK163 := bb_ BK163 hb; replace BK164 := bb_ BK164 hb; replace BK165 := bb_ BK165 hb; replace HB := bs_ w hb; clear hb; replace hn164_165 := NB164_165.out; replace hn165_164 := NB165_164.out; replace hc164 := ce4_ BK164) | ((with_reducible refine gate_callee (f := 30) rfl ?_); refine goesA_ (some 25) Try.func30 #[.agg #[.int .u8 a1_0, .int .i64 a1_1, .int .u64 a1_2, .int .i64 a1_3]] ?_; (with_reducible refine (lease_read.calls k a1_0 a1_1 a1_2 a1_3 t167 t168 t169 _ A5.out).mono ?_); rintro e w16 ⟨rfl, hb⟩; refine ⟨_, rfl, ?_⟩; replace BK163 := bb_ BK163 hb; replace BK164 := bb_ BK164 hb; replace BK165 := bb_ BK165 hb; replace HB := bs_ w hb; clear hb; replace hc165 := ce8_ BK165))
   refine bodyPost_ret (results_ctt rfl _ _ gb165 29 #[.int .i64 0, .int .i64 0, .int .i64 0, .int .i64 0, .int .i64 0, .int .u64 0, .int .i64 0, .slice none 0 0] (0, 0) _ rfl (bp8_ (bq_ BK165)) Try.underlying29 rfl (by kernel_rfl)) rfl ?_
   exact ⟨_, by first | rfl | (simp [errW_none, errW_some] <;> rfl) | (simp [*, errW_none, errW_some] <;> rfl), by first | exact Kd.R_nil _ _ _ _ _ | exact Kd.N_nil _ _ _ _ _ | exact Kd.V_nil _ _ _ _ _ | exact Kd.Q_nil _ _ _ _ _ | exact Kd.S_nil _ _ _ _ _, by repeat (first | (with_reducible first | exact HB.out | apply below_alloc | apply pw_below_drewN | apply below_drew1 | refine below_set ?_ GE163.out | refine below_set ?_ GE164.out | refine below_set ?_ GE165.out) | exact HB.out)⟩
  ·rw [if_neg c6] at H
   have c6b0 : (t167 == 0) = false := beq_eq_false_iff_ne.mpr c6
   have c6b1 : (t167 != 0) = true := bne_iff_ne.mpr c6
   have H0_ := bo_ H; clear H; obtain ⟨t170, A18, H⟩ := H0_
   try dsimp only at H
   by_cases c19 : t170 ≥ (l0_7.length : Int)
   ·rw [if_pos c19] at H
    have c19b0 : decide ((l0_7.length : Int) ≤ t170) = true := decide_eq_true c19
    clear c19
    simp only [Option.some.injEq, Prod.mk.injEq] at H
    obtain ⟨rfl, rfl, rfl, rfl, rfl, rfl, rfl, rfl, rfl, rfl⟩ := H
    go_enter Try.func14, Try.ntmps14
    go_wp2_with (first | ((with_reducible refine gate_dst (N := 2) rfl ?_); refine bx_ #[.int .i64 a0_0, .int .i64 a0_1, .int .i64 a0_2, .int .i64 a0_3, .int .i64 a0_4, .int .u64 a0_5, .int .i64 a0_6, .slice A0_7 l0_7.length c0_7] 29 ?_; intro gb163 hg w20 BK163 hb; have GW163 := bz_ w hg; have GE163 := GW163; replace HB := bs_ w hb; clear hb hg) | ((with_reducible refine gate_dst (N := 3) rfl ?_); refine bx_ #[.int .u8 a1_0, .int .i64 a1_1, .int .u64 a1_2, .int .i64 a1_3] 31 ?_; intro gb164 hg w21 BK164 hb; have GW164 := bz_ w hg; have GE164 := GW164; have NB163_164 := bn_ BK163 hg; have NB164_163 := bm_ BK163 hg; replace BK163 := bb_ BK163 hb; replace HB := bs_ w hb; clear hb hg) | ((with_reducible refine gate_dst (N := 4) rfl ?_); refine bx_ #[.int .i64 0, .int .i64 0, .int .i64 0, .int .i64 0, .int .i64 0, .int .u64 0, .int .i64 0, .slice none 0 0] 29 ?_; intro gb165 hg w22 BK165 hb; have GW165 := bz_ w hg; have GE165 := GW165; have NB163_165 := bn_ BK163 hg; have NB165_163 := bm_ BK163 hg; have NB164_165 := bn_ BK164 hg; have NB165_164 := bm_ BK164 hg; replace BK163 := bb_ BK163 hb; replace BK164 := bb_ BK164 hb; replace HB := bs_ w hb; clear hb hg; replace hn163_164 := NB163_164.out; replace hn164_163 := NB164_163.out; replace hn163_165 := NB163_165.out; replace hn165_163 := NB165_163.out; replace hc163 := ce8_ BK163) | ((with_reducible refine gate_callee (f := 27) rfl ?_); refine goesA_ (some 19) Try.func27 #[.agg #[.int .i64 a0_0, .int .i64 a0_1, .int .i64 a0_2, .int .i64 a0_3, .int .i64 a0_4, .int .u64 a0_5, .int .i64 a0_6, .slice A0_7 l0_7.length c0_7]] ?_; (with_reducible refine (lease_Check.calls k a0_0 a0_1 a0_2 a0_3 a0_4 a0_5 a0_6 _ _ l0_7 t166 _ ?side1 ?side2 A3.out).mono ?_); (case side1 => exact cs_ HR0_7 HB); (case side2 => exact HC0_7.out); rintro e w26 ⟨rfl, hb⟩; refine ⟨_, rfl, ?_⟩; replace BK163 := bb_ BK163 hb; replace BK164 := bb_ BK164 hb; replace BK165 := bb_ BK165 hb; replace HB := bs_ w hb; clear hb; replace hn164_165 := NB164_165.out; replace hn165_164 := NB165_164.out; replace hc164 := ce4_ BK164) | ((with_reducible refine gate_callee (f := 30) rfl ?_); refine goesA_ (some 25) Try.func30 #[.agg #[.int .u8 a1_0, .int .i64 a1_1, .int .u64 a1_2, .int .i64 a1_3]] ?_; (with_reducible refine (lease_read.calls k a1_0 a1_1 a1_2 a1_3 t167 t168 t169 _ A5.out).mono ?_); rintro e w29 ⟨rfl, hb⟩; refine ⟨_, rfl, ?_⟩; replace BK163 := bb_ BK163 hb; replace BK164 := bb_ BK164 hb; replace BK165 := bb_ BK165 hb; replace HB := bs_ w hb; clear hb) | ((with_reducible refine gate_invoke rfl ?_); refine goesI_ (some 30) rfl rfl rfl (t := t167) (o := t168) (n := t169) rfl ?_; (with_reducible refine (lease_take_host.calls t167 t168 t169 t170 _ A18.out).mono ?_); rintro e w30 ⟨rfl, hb⟩; refine ⟨_, rfl, ?_⟩; replace BK163 := bb_ BK163 hb; replace BK164 := bb_ BK164 hb; replace BK165 := bb_ BK165 hb; replace HB := bs_ w hb; clear hb; replace hc163 := ce8_ BK163; replace hc165 := ce8_ BK165))
    refine bodyPost_ret (results_ctt rfl _ _ gb165 29 #[.int .i64 0, .int .i64 0, .int .i64 0, .int .i64 0, .int .i64 0, .int .u64 0, .int .i64 0, .slice none 0 0] (0, 0) _ rfl (bp8_ (bq_ BK165)) Try.underlying29 rfl (by kernel_rfl)) rfl ?_
    exact ⟨_, by first | rfl | (simp [errW_none, errW_some] <;> rfl) | (simp [*, errW_none, errW_some] <;> rfl), by first | exact Kd.R_nil _ _ _ _ _ | exact Kd.N_nil _ _ _ _ _ | exact Kd.V_nil _ _ _ _ _ | exact Kd.Q_nil _ _ _ _ _ | exact Kd.S_nil _ _ _ _ _, by repeat (first | (with_reducible first | exact HB.out | apply below_alloc | apply pw_below_drewN | apply below_drew1 | refine below_set ?_ GE163.out | refine below_set ?_ GE164.out | refine below_set ?_ GE165.out) | exact HB.out)⟩
   ·rw [if_neg c19] at H
    have c19b0 : decide ((l0_7.length : Int) ≤ t170) = false := decide_eq_false c19
    clear c19
    have H0_ := bo_ H; clear H; obtain ⟨⟨t171, t172, t173, t174, t175, t176, t177⟩, A33, H⟩ := H0_
    try dsimp only at H
    by_cases c34 : t177 = 0
    ·rw [if_pos c34] at H
     have c34b0 : (t177 == 0) = true := beq_iff_eq.mpr c34
     have c34b1 : (t177 != 0) = false := bne_eq_false_iff_eq.mpr c34
     clear c34
     have H0_ := bo_ H; clear H; obtain ⟨t179, A35, H⟩ := H0_
     try dsimp only at H
     have HX_ := Aside0.mk H
     clear H
     go_enter Try.func14, Try.ntmps14
     try go_wp2_with (first | ((with_reducible refine gate_dst (N := 2) rfl ?_); refine bx_ #[.int .i64 a0_0, .int .i64 a0_1, .int .i64 a0_2, .int .i64 a0_3, .int .i64 a0_4, .int .u64 a0_5, .int .i64 a0_6, .slice A0_7 l0_7.length c0_7] 29 ?_; intro gb163 hg w42 BK163 hb; have GW163 := bz_ w hg; have GE163 := GW163; replace HB := bs_ w hb; clear hb hg) | ((with_reducible refine gate_dst (N := 3) rfl ?_); refine bx_ #[.int .u8 a1_0, .int .i64 a1_1, .int .u64 a1_2, .int .i64 a1_3] 31 ?_; intro gb164 hg w43 BK164 hb; have GW164 := bz_ w hg; have GE164 := GW164; have NB163_164 := bn_ BK163 hg; have NB164_163 := bm_ BK163 hg; replace BK163 := bb_ BK163 hb; replace HB := bs_ w hb; clear hb hg) | ((with_reducible refine gate_dst (N := 4) rfl ?_); refine bx_ #[.int .i64 0, .int .i64 0, .int .i64 0, .int .i64 0, .int .i64 0, .int .u64 0, .int .i64 0, .slice none 0 0] 29 ?_; intro gb165 hg w44 BK165 hb; have GW165 := bz_ w hg; have GE165 := GW165; have NB163_165 := bn_ BK163 hg; have NB165_163 := bm_ BK163 hg; have NB164_165 := bn_ BK164 hg; have NB165_164 := bm_ BK164 hg; replace BK163 := bb_ BK163 hb; replace BK164 := bb_ BK164 hb; replace HB := bs_ w hb; clear hb hg; replace hn163_164 := NB163_164.out; replace hn164_163 := NB164_163.out; replace hn163_165 := NB163_165.out; replace hn165_163 := NB165_163.out; replace hc163 := ce8_ BK163) | ((with_reducible refine gate_callee (f := 27) rfl ?_); refine goesA_ (some 19) Try.func27 #[.agg #[.int .i64 a0_0, .int .i64 a0_1, .int .i64 a0_2, .int .i64 a0_3, .int .i64 a0_4, .int .u64 a0_5, .int .i64 a0_6, .slice A0_7 l0_7.length c0_7]] ?_; (with_reducible refine (lease_Check.calls k a0_0 a0_1 a0_2 a0_3 a0_4 a0_5 a0_6 _ _ l0_7 t166 _ ?side1 ?side2 A3.out).mono ?_); (case side1 => exact cs_ HR0_7 HB); (case side2 => exact HC0_7.out); rintro e w48 ⟨rfl, hb⟩; refine ⟨_, rfl, ?_⟩; replace BK163 := bb_ BK163 hb; replace BK164 := bb_ BK164 hb; replace BK165 := bb_ BK165 hb; replace HB := bs_ w hb; clear hb; replace hn164_165 := NB164_165.out; replace hn165_164 := NB165_164.out; replace hc164 := ce4_ BK164) | ((with_reducible refine gate_callee (f := 30) rfl ?_); refine goesA_ (some 25) Try.func30 #[.agg #[.int .u8 a1_0, .int .i64 a1_1, .int .u64 a1_2, .int .i64 a1_3]] ?_; (with_reducible refine (lease_read.calls k a1_0 a1_1 a1_2 a1_3 t167 t168 t169 _ A5.out).mono ?_); rintro e w51 ⟨rfl, hb⟩; refine ⟨_, rfl, ?_⟩; replace BK163 := bb_ BK163 hb; replace BK164 := bb_ BK164 hb; replace BK165 := bb_ BK165 hb; replace HB := bs_ w hb; clear hb) | ((with_reducible refine gate_invoke rfl ?_); refine goesI_ (some 30) rfl rfl rfl (t := t167) (o := t168) (n := t169) rfl ?_; (with_reducible refine (lease_take_host.calls t167 t168 t169 t170 _ A18.out).mono ?_); rintro e w52 ⟨rfl, hb⟩; refine ⟨_, rfl, ?_⟩; replace BK163 := bb_ BK163 hb; replace BK164 := bb_ BK164 hb; replace BK165 := bb_ BK165 hb; replace HB := bs_ w hb; clear hb; replace hc163 := ce8_ BK163; replace hc164 := ce4_ BK164) | ((with_reducible refine gate_callee (f := 31) rfl ?_); refine goesA_ (some 42) Try.func31 #[.agg #[.int .i64 a0_0, .int .i64 a0_1, .int .i64 a0_2, .int .i64 a0_3, .int .i64 a0_4, .int .u64 a0_5], .int .u64 a1_2] ?_; (with_reducible refine (bucket_Refill.calls k a0_0 a0_1 a0_2 a0_3 a0_4 a0_5 a1_2 t171 t172 t173 t174 t175 t176 t177 _ A33.out).mono ?_); rintro e w55 ⟨rfl, hb⟩; refine ⟨_, rfl, ?_⟩; replace BK163 := bb_ BK163 hb; replace BK164 := bb_ BK164 hb; replace BK165 := bb_ BK165 hb; replace HB := bs_ w hb; clear hb) | ((with_reducible refine gate_dst (N := 10) rfl ?_); refine bx_ #[.int .i64 0, .int .i64 0, .int .i64 0, .int .i64 0, .int .i64 0, .int .u64 0] 26 ?_; intro gb178 hg w56 BK178 hb; have GW178 := bz_ w hg; have GE178 := GW178; have NB163_178 := bn_ BK163 hg; have NB178_163 := bm_ BK163 hg; have NB164_178 := bn_ BK164 hg; have NB178_164 := bm_ BK164 hg; have NB165_178 := bn_ BK165 hg; have NB178_165 := bm_ BK165 hg; replace BK163 := bb_ BK163 hb; replace BK164 := bb_ BK164 hb; replace BK165 := bb_ BK165 hb; replace HB := bs_ w hb; clear hb hg; replace hn178_163 := NB178_163.out; replace hn163_178 := NB163_178.out; replace hn178_164 := NB178_164.out; replace hn164_178 := NB164_178.out; replace hn178_165 := NB178_165.out; replace hn165_178 := NB165_178.out; replace hc178 := ce6_ BK178))
     have n0_ : Aside0 (((((((w56.setCell ⟨gb178, 0, none⟩ (.int .i64 t171)).setCell ⟨gb178, 1, none⟩ (.int .i64 t172)).setCell ⟨gb178, 2, none⟩ (.int .i64 t173)).setCell ⟨gb178, 3, none⟩ (.int .i64 t174)).setCell ⟨gb178, 4, none⟩ (.int .i64 t175)).setCell ⟨gb178, 5, none⟩ (.int .u64 t176)).heap[gb163]? = some (.cells #[.int .i64 a0_0, .int .i64 a0_1, .int .i64 a0_2, .int .i64 a0_3, .int .i64 a0_4, .int .u64 a0_5, .int .i64 a0_6, .slice A0_7 l0_7.length c0_7] 29 (0, 0))) := ⟨(bt_ BK163)⟩
     have n1_ : Aside0 (((((((w56.setCell ⟨gb178, 0, none⟩ (.int .i64 t171)).setCell ⟨gb178, 1, none⟩ (.int .i64 t172)).setCell ⟨gb178, 2, none⟩ (.int .i64 t173)).setCell ⟨gb178, 3, none⟩ (.int .i64 t174)).setCell ⟨gb178, 4, none⟩ (.int .i64 t175)).setCell ⟨gb178, 5, none⟩ (.int .u64 t176)).heap[gb164]? = some (.cells #[.int .u8 a1_0, .int .i64 a1_1, .int .u64 a1_2, .int .i64 a1_3] 31 (0, 0))) := ⟨(bt_ BK164)⟩
     have n2_ : Aside0 (((((((w56.setCell ⟨gb178, 0, none⟩ (.int .i64 t171)).setCell ⟨gb178, 1, none⟩ (.int .i64 t172)).setCell ⟨gb178, 2, none⟩ (.int .i64 t173)).setCell ⟨gb178, 3, none⟩ (.int .i64 t174)).setCell ⟨gb178, 4, none⟩ (.int .i64 t175)).setCell ⟨gb178, 5, none⟩ (.int .u64 t176)).heap[gb165]? = some (.cells #[.int .i64 0, .int .i64 0, .int .i64 0, .int .i64 0, .int .i64 0, .int .u64 0, .int .i64 0, .slice none 0 0] 29 (0, 0))) := ⟨(bt_ BK165)⟩
     have n3_ : Aside0 (((((((w56.setCell ⟨gb178, 0, none⟩ (.int .i64 t171)).setCell ⟨gb178, 1, none⟩ (.int .i64 t172)).setCell ⟨gb178, 2, none⟩ (.int .i64 t173)).setCell ⟨gb178, 3, none⟩ (.int .i64 t174)).setCell ⟨gb178, 4, none⟩ (.int .i64 t175)).setCell ⟨gb178, 5, none⟩ (.int .u64 t176)).heap[gb178]? = some (.cells #[.int .i64 t171, .int .i64 t172, .int .i64 t173, .int .i64 t174, .int .i64 t175, .int .u64 t176] 26 (0, 0))) := ⟨(bp6_ (bq_ BK178))⟩
     have n4_ : Aside0 (Below w.heap.size w ((((((w56.setCell ⟨gb178, 0, none⟩ (.int .i64 t171)).setCell ⟨gb178, 1, none⟩ (.int .i64 t172)).setCell ⟨gb178, 2, none⟩ (.int .i64 t173)).setCell ⟨gb178, 3, none⟩ (.int .i64 t174)).setCell ⟨gb178, 4, none⟩ (.int .i64 t175)).setCell ⟨gb178, 5, none⟩ (.int .u64 t176))) := bw_
     (try clear BK163)
     (try clear BK164)
     (try clear BK165)
     (try clear BK178)
     (try clear HB)
     generalize ((((((w56.setCell ⟨gb178, 0, none⟩ (.int .i64 t171)).setCell ⟨gb178, 1, none⟩ (.int .i64 t172)).setCell ⟨gb178, 2, none⟩ (.int .i64 t173)).setCell ⟨gb178, 3, none⟩ (.int .i64 t174)).setCell ⟨gb178, 4, none⟩ (.int .i64 t175)).setCell ⟨gb178, 5, none⟩ (.int .u64 t176)) = w61 at n0_ n1_ n2_ n3_ n4_ ⊢
     have BK163 := n0_
     have BK164 := n1_
     have BK165 := n2_
     have BK178 := n3_
     have HB := n4_
     clear n0_ n1_ n2_ n3_ n4_
     replace BK163 := Aside0.mk (blk_drew BK163.out)
     replace BK164 := Aside0.mk (blk_drew BK164.out)
     replace BK165 := Aside0.mk (blk_drew BK165.out)
     replace BK178 := Aside0.mk (blk_drew BK178.out)
     replace HB := Aside0.mk (below_drew1 HB.out)
     refine start_ (n := 9) (S := fun w' => w'.cell? ⟨gb178, 0, none⟩ = some (.int .i64 t171) ∧ w'.cell? ⟨gb178, 1, none⟩ = some (.int .i64 t172) ∧ w'.cell? ⟨gb178, 2, none⟩ = some (.int .i64 t173) ∧ w'.cell? ⟨gb178, 3, none⟩ = some (.int .i64 t174) ∧ w'.cell? ⟨gb178, 4, none⟩ = some (.int .i64 t175) ∧ w'.cell? ⟨gb178, 5, none⟩ = some (.int .u64 t176) ∧ w'.cell? ⟨gb163, 0, none⟩ = some (.int .i64 a0_0) ∧ w'.cell? ⟨gb163, 1, none⟩ = some (.int .i64 a0_1) ∧ w'.cell? ⟨gb163, 2, none⟩ = some (.int .i64 a0_2) ∧ w'.cell? ⟨gb163, 3, none⟩ = some (.int .i64 a0_3) ∧ w'.cell? ⟨gb163, 4, none⟩ = some (.int .i64 a0_4) ∧ w'.cell? ⟨gb163, 5, none⟩ = some (.int .u64 a0_5) ∧ w'.cell? ⟨gb163, 6, none⟩ = some (.int .i64 a0_6) ∧ w'.cell? ⟨gb163, 7, none⟩ = some (.slice A0_7 l0_7.length c0_7)) (ds := []) (bl_ 9 0) (by kernel_rfl) rfl (by kernel_rfl) ⟨(blk_cell BK178.out 0).trans rfl, (blk_cell BK178.out 1).trans rfl, (blk_cell BK178.out 2).trans rfl, (blk_cell BK178.out 3).trans rfl, (blk_cell BK178.out 4).trans rfl, (blk_cell BK178.out 5).trans rfl, (blk_cell BK163.out 0).trans rfl, (blk_cell BK163.out 1).trans rfl, (blk_cell BK163.out 2).trans rfl, (blk_cell BK163.out 3).trans rfl, (blk_cell BK163.out 4).trans rfl, (blk_cell BK163.out 5).trans rfl, (blk_cell BK163.out 6).trans rfl, (blk_cell BK163.out 7).trans rfl⟩ (fun hHeld => ?_); refine with_tabW lease_Step.tab13 lease_Step.bits13 (fun HT_ HW_ => ?_)
     generalize w61.drew = w62 at BK163 BK164 BK165 BK178 HB hHeld ⊢
     refine pa_ 1 (some 50) (bl_ 9 2) HT_ ?_
     refine pa_ 3 (some 52) (bl_ 9 10) HT_ ?_
     refine ta_ 0 (some 49) (bl_ 9 11) HT_ HW_ hHeld ?_
     refine ta_ 2 (some 51) (bl_ 9 15) HT_ HW_ hHeld ?_
     refine ta_ 4 (some 53) (bl_ 9 31) HT_ HW_ hHeld ?_
     refine join_ (σ := Value × Nat) 1 (bl_ 9 255) (fun s_ => [(54, s_.1), (12, .pointer (some ⟨s_.2, 0, none⟩)), (55, .agg #[.int .i64 t171, .int .i64 t172, .int .i64 t173, .int .i64 t174, .int .i64 t175, .int .u64 t176, .int .i64 a0_6, s_.1])]) (fun s_ w' => (w'.cell? ⟨gb178, 0, none⟩ = some (.int .i64 t171) ∧ w'.cell? ⟨gb178, 1, none⟩ = some (.int .i64 t172) ∧ w'.cell? ⟨gb178, 2, none⟩ = some (.int .i64 t173) ∧ w'.cell? ⟨gb178, 3, none⟩ = some (.int .i64 t174) ∧ w'.cell? ⟨gb178, 4, none⟩ = some (.int .i64 t175) ∧ w'.cell? ⟨gb178, 5, none⟩ = some (.int .u64 t176) ∧ w'.cell? ⟨gb163, 0, none⟩ = some (.int .i64 a0_0) ∧ w'.cell? ⟨gb163, 1, none⟩ = some (.int .i64 a0_1) ∧ w'.cell? ⟨gb163, 2, none⟩ = some (.int .i64 a0_2) ∧ w'.cell? ⟨gb163, 3, none⟩ = some (.int .i64 a0_3) ∧ w'.cell? ⟨gb163, 4, none⟩ = some (.int .i64 a0_4) ∧ w'.cell? ⟨gb163, 5, none⟩ = some (.int .u64 a0_5) ∧ w'.cell? ⟨gb163, 6, none⟩ = some (.int .i64 a0_6) ∧ w'.cell? ⟨gb163, 7, none⟩ = some (.slice A0_7 l0_7.length c0_7)) ∧ (Kd.R (Kd.int .i64) 2 w' w.heap.size (fun _ => True) s_.1 t179) ∧ (w'.heap[gb163]? = some (.cells #[.int .i64 a0_0, .int .i64 a0_1, .int .i64 a0_2, .int .i64 a0_3, .int .i64 a0_4, .int .u64 a0_5, .int .i64 a0_6, .slice A0_7 l0_7.length c0_7] 29 (0, 0))) ∧ (w'.heap[gb164]? = some (.cells #[.int .u8 a1_0, .int .i64 a1_1, .int .u64 a1_2, .int .i64 a1_3] 31 (0, 0))) ∧ (w'.heap[gb165]? = some (.cells #[.int .i64 0, .int .i64 0, .int .i64 0, .int .i64 0, .int .i64 0, .int .u64 0, .int .i64 0, .slice none 0 0] 29 (0, 0))) ∧ (w'.heap[gb178]? = some (.cells #[.int .i64 t171, .int .i64 t172, .int .i64 t173, .int .i64 t174, .int .i64 t175, .int .u64 t176] 26 (0, 0))) ∧ (w'.heap[s_.2]? = some (.cells #[.int .i64 0, .int .i64 0, .int .i64 0, .int .i64 0, .int .i64 0, .int .u64 0, .int .i64 0, .slice none 0 0] 29 (0, 0))) ∧ (w.heap.size ≤ s_.2) ∧ (w.heap.size ≤ s_.2) ∧ (gb163 ≠ s_.2) ∧ (s_.2 ≠ gb163) ∧ (gb164 ≠ s_.2) ∧ (s_.2 ≠ gb164) ∧ (gb165 ≠ s_.2) ∧ (s_.2 ≠ gb165) ∧ (gb178 ≠ s_.2) ∧ (s_.2 ≠ gb178) ∧ (Below w.heap.size w w')) ?_ ?_
     rotate_left
     ·intro hCont
      refine tw_ 5 7 (some 54) (some 12) (bl_ 9 63) (bl_ 9 159) HT_ (fun K hK => ?_) fun K hK => ?_
      ·refine goesB_ Try.func32 #[.slice A0_7 l0_7.length c0_7] ?_
       with_reducible refine (slices_Clone_int64.calls _ _ l0_7 t179 _ ?side1 ?side2 A35.out).mono ?_
       (case side1 => exact cs_ HR0_7 HB)
       (case side2 => exact HC0_7.out)
       rintro e w63 ⟨v180, rfl, ho0, hb⟩
       refine ⟨_, rfl, ?_⟩
       have HO181 := Aside0.mk (Kd.R_lower ho0 (below_size bh_))
       replace BK163 := bb_ BK163 hb
       replace BK164 := bb_ BK164 hb
       replace BK165 := bb_ BK165 hb
       replace BK178 := bb_ BK178 hb
       replace HB := bs_ w hb
       (try clear hb)
       (try clear ho0)
       obtain ⟨Ao64, co64, eo64⟩ := Kd.R_slice HO181.out
       (first | subst eo64 | (injection eo64 with f1_ f2_ f3_; have f4_ := f1_.symm; have f5_ := f3_.symm; clear f1_ f2_ f3_; subst f4_; subst f5_))
       refine hK.out _ _ ⟨(blk_cell BK178.out 0).trans rfl, (blk_cell BK178.out 1).trans rfl, (blk_cell BK178.out 2).trans rfl, (blk_cell BK178.out 3).trans rfl, (blk_cell BK178.out 4).trans rfl, (blk_cell BK178.out 5).trans rfl, (blk_cell BK163.out 0).trans rfl, (blk_cell BK163.out 1).trans rfl, (blk_cell BK163.out 2).trans rfl, (blk_cell BK163.out 3).trans rfl, (blk_cell BK163.out 4).trans rfl, (blk_cell BK163.out 5).trans rfl, (blk_cell BK163.out 6).trans rfl, (blk_cell BK163.out 7).trans rfl⟩ (fun hHeld => ?_)
       clear hK K
       refine nm_ (some 54) ?_
       refine pa_ 6 (some 55) (bl_ 9 127) HT_ ?_
       refine oa_ 7 (some 12) (bl_ 9 255) HT_ fun K hK => ?_
       refine bs2_ #[.int .i64 0, .int .i64 0, .int .i64 0, .int .i64 0, .int .i64 0, .int .u64 0, .int .i64 0, .slice none 0 0] 29 ?_
       intro gb182 hg w65 BK182 hb
       have GW182 := bz_ w hg
       have GE182 := GW182
       have NB163_182 := bn_ BK163 hg
       have NB182_163 := bm_ BK163 hg
       have NB164_182 := bn_ BK164 hg
       have NB182_164 := bm_ BK164 hg
       have NB165_182 := bn_ BK165 hg
       have NB182_165 := bm_ BK165 hg
       have NB178_182 := bn_ BK178 hg
       have NB182_178 := bm_ BK178 hg
       replace HO181 := rb_ HO181 hb
       replace BK163 := bb_ BK163 hb
       replace BK164 := bb_ BK164 hb
       replace BK165 := bb_ BK165 hb
       replace BK178 := bb_ BK178 hb
       replace HB := bs_ w hb
       clear hb hg
       refine hK.out _ _ ⟨(blk_cell BK178.out 0).trans rfl, (blk_cell BK178.out 1).trans rfl, (blk_cell BK178.out 2).trans rfl, (blk_cell BK178.out 3).trans rfl, (blk_cell BK178.out 4).trans rfl, (blk_cell BK178.out 5).trans rfl, (blk_cell BK163.out 0).trans rfl, (blk_cell BK163.out 1).trans rfl, (blk_cell BK163.out 2).trans rfl, (blk_cell BK163.out 3).trans rfl, (blk_cell BK163.out 4).trans rfl, (blk_cell BK163.out 5).trans rfl, (blk_cell BK163.out 6).trans rfl, (blk_cell BK163.out 7).trans rfl⟩ (fun hHeld => ?_)
       clear hK K
       refine nm_ (some 12) ?_
       exact no_ (hCont (.slice Ao64 t179.length co64, gb182) _ ⟨hHeld, (rs_ HO181), (bq_ BK163), (bq_ BK164), (bq_ BK165), (bq_ BK178), (bq_ BK182), GW182.out, GE182.out, NB163_182.out, NB182_163.out, NB164_182.out, NB182_164.out, NB165_182.out, NB182_165.out, NB178_182.out, NB182_178.out, bh_⟩)
      ·refine bs2_ #[.int .i64 0, .int .i64 0, .int .i64 0, .int .i64 0, .int .i64 0, .int .u64 0, .int .i64 0, .slice none 0 0] 29 ?_
       intro gb182 hg w63 BK182 hb
       have GW182 := bz_ w hg
       have GE182 := GW182
       have NB163_182 := bn_ BK163 hg
       have NB182_163 := bm_ BK163 hg
       have NB164_182 := bn_ BK164 hg
       have NB182_164 := bm_ BK164 hg
       have NB165_182 := bn_ BK165 hg
       have NB182_165 := bm_ BK165 hg
       have NB178_182 := bn_ BK178 hg
       have NB182_178 := bm_ BK178 hg
       replace BK163 := bb_ BK163 hb
       replace BK164 := bb_ BK164 hb
       replace BK165 := bb_ BK165 hb
       replace BK178 := bb_ BK178 hb
       replace HB := bs_ w hb
       clear hb hg
       refine hK.out _ _ ⟨(blk_cell BK178.out 0).trans rfl, (blk_cell BK178.out 1).trans rfl, (blk_cell BK178.out 2).trans rfl, (blk_cell BK178.out 3).trans rfl, (blk_cell BK178.out 4).trans rfl, (blk_cell BK178.out 5).trans rfl, (blk_cell BK163.out 0).trans rfl, (blk_cell BK163.out 1).trans rfl, (blk_cell BK163.out 2).trans rfl, (blk_cell BK163.out 3).trans rfl, (blk_cell BK163.out 4).trans rfl, (blk_cell BK163.out 5).trans rfl, (blk_cell BK163.out 6).trans rfl, (blk_cell BK163.out 7).trans rfl⟩ (fun hHeld => ?_)
       clear hK K
       refine nm_ (some 12) ?_
       refine oa_ 5 (some 54) (bl_ 9 191) HT_ fun K hK => ?_
       refine goesB_ Try.func32 #[.slice A0_7 l0_7.length c0_7] ?_
       with_reducible refine (slices_Clone_int64.calls _ _ l0_7 t179 _ ?side1 ?side2 A35.out).mono ?_
       (case side1 => exact cs_ HR0_7 HB)
       (case side2 => exact HC0_7.out)
       rintro e w64 ⟨v180, rfl, ho0, hb⟩
       refine ⟨_, rfl, ?_⟩
       have HO181 := Aside0.mk (Kd.R_lower ho0 (below_size bh_))
       replace BK163 := bb_ BK163 hb
       replace BK164 := bb_ BK164 hb
       replace BK165 := bb_ BK165 hb
       replace BK178 := bb_ BK178 hb
       replace BK182 := bb_ BK182 hb
       replace HB := bs_ w hb
       (try clear hb)
       (try clear ho0)
       obtain ⟨Ao65, co65, eo65⟩ := Kd.R_slice HO181.out
       (first | subst eo65 | (injection eo65 with f1_ f2_ f3_; have f4_ := f1_.symm; have f5_ := f3_.symm; clear f1_ f2_ f3_; subst f4_; subst f5_))
       refine hK.out _ _ ⟨(blk_cell BK178.out 0).trans rfl, (blk_cell BK178.out 1).trans rfl, (blk_cell BK178.out 2).trans rfl, (blk_cell BK178.out 3).trans rfl, (blk_cell BK178.out 4).trans rfl, (blk_cell BK178.out 5).trans rfl, (blk_cell BK163.out 0).trans rfl, (blk_cell BK163.out 1).trans rfl, (blk_cell BK163.out 2).trans rfl, (blk_cell BK163.out 3).trans rfl, (blk_cell BK163.out 4).trans rfl, (blk_cell BK163.out 5).trans rfl, (blk_cell BK163.out 6).trans rfl, (blk_cell BK163.out 7).trans rfl⟩ (fun hHeld => ?_)
       clear hK K
       refine nm_ (some 54) ?_
       refine pa_ 6 (some 55) (bl_ 9 255) HT_ ?_
       exact no_ (hCont (.slice Ao65 t179.length co65, gb182) _ ⟨hHeld, (rs_ HO181), (bq_ BK163), (bq_ BK164), (bq_ BK165), (bq_ BK178), (bq_ BK182), GW182.out, GE182.out, NB163_182.out, NB182_163.out, NB164_182.out, NB182_164.out, NB165_182.out, NB182_165.out, NB178_182.out, NB182_178.out, bh_⟩)
     rintro ⟨v180, gb182⟩ w66 hS0_
     dsimp only at hS0_
     obtain ⟨hS_, h0_, h1_, h2_, h3_, h4_, h5_, h6_, h7_, h8_, h9_, h10_, h11_, h12_, h13_, h14_, h15_, h16_⟩ := hS0_
     have HO181 : Aside0 (Kd.R (Kd.int .i64) 2 w66 w.heap.size (fun _ => True) v180 t179) := ⟨h0_⟩
     have BK182 := Aside0.mk h5_
     have GW182 := Aside0.mk h6_
     have GE182 := Aside0.mk h7_
     have NB163_182 := Aside0.mk h8_
     have NB182_163 := Aside0.mk h9_
     have NB164_182 := Aside0.mk h10_
     have NB182_164 := Aside0.mk h11_
     have NB165_182 := Aside0.mk h12_
     have NB182_165 := Aside0.mk h13_
     have NB178_182 := Aside0.mk h14_
     have NB182_178 := Aside0.mk h15_
     replace BK163 := Aside0.mk h1_
     replace BK164 := Aside0.mk h2_
     replace BK165 := Aside0.mk h3_
     replace BK178 := Aside0.mk h4_
     replace HB := Aside0.mk h16_
     clear h0_ h1_ h2_ h3_ h4_ h5_ h6_ h7_ h8_ h9_ h10_ h11_ h12_ h13_ h14_ h15_ h16_
     have hHeld := hS_
     obtain ⟨Ao67, co67, eo67⟩ := Kd.R_slice HO181.out
     (first | subst eo67 | (injection eo67 with f1_ f2_ f3_; have f4_ := f1_.symm; have f5_ := f3_.symm; clear f1_ f2_ f3_; subst f4_; subst f5_))
     refine nq_ ?_
     refine oa_ 8 none (bl_ 9 511) HT_ fun K hK => ?_
     have hs68 : w66.cell? ⟨gb182, 0, none⟩ = some (.int .i64 0) := (blk_cell BK182.out 0).trans rfl
     have hfs68 := blk_frozen BK182.out 0
     have hns68_0 := NB163_182.out
     have hns68_1 := NB164_182.out
     have hns68_2 := NB165_182.out
     have hns68_3 := NB178_182.out
     have hms68_0 := NB182_163.out
     have hms68_1 := NB182_164.out
     have hms68_2 := NB182_165.out
     have hms68_3 := NB182_178.out
     have hs69 : w66.cell? ⟨gb182, 1, none⟩ = some (.int .i64 0) := (blk_cell BK182.out 1).trans rfl
     have hfs69 := blk_frozen BK182.out 1
     have hns69_0 := NB163_182.out
     have hns69_1 := NB164_182.out
     have hns69_2 := NB165_182.out
     have hns69_3 := NB178_182.out
     have hms69_0 := NB182_163.out
     have hms69_1 := NB182_164.out
     have hms69_2 := NB182_165.out
     have hms69_3 := NB182_178.out
     have hs70 : w66.cell? ⟨gb182, 2, none⟩ = some (.int .i64 0) := (blk_cell BK182.out 2).trans rfl
     have hfs70 := blk_frozen BK182.out 2
     have hns70_0 := NB163_182.out
     have hns70_1 := NB164_182.out
     have hns70_2 := NB165_182.out
     have hns70_3 := NB178_182.out
     have hms70_0 := NB182_163.out
     have hms70_1 := NB182_164.out
     have hms70_2 := NB182_165.out
     have hms70_3 := NB182_178.out
     have hs71 : w66.cell? ⟨gb182, 3, none⟩ = some (.int .i64 0) := (blk_cell BK182.out 3).trans rfl
     have hfs71 := blk_frozen BK182.out 3
     have hns71_0 := NB163_182.out
     have hns71_1 := NB164_182.out
     have hns71_2 := NB165_182.out
     have hns71_3 := NB178_182.out
     have hms71_0 := NB182_163.out
     have hms71_1 := NB182_164.out
     have hms71_2 := NB182_165.out
     have hms71_3 := NB182_178.out
     have hs72 : w66.cell? ⟨gb182, 4, none⟩ = some (.int .i64 0) := (blk_cell BK182.out 4).trans rfl
     have hfs72 := blk_frozen BK182.out 4
     have hns72_0 := NB163_182.out
     have hns72_1 := NB164_182.out
     have hns72_2 := NB165_182.out
     have hns72_3 := NB178_182.out
     have hms72_0 := NB182_163.out
     have hms72_1 := NB182_164.out
     have hms72_2 := NB182_165.out
     have hms72_3 := NB182_178.out
     have hs73 : w66.cell? ⟨gb182, 5, none⟩ = some (.int .u64 0) := (blk_cell BK182.out 5).trans rfl
     have hfs73 := blk_frozen BK182.out 5
     have hns73_0 := NB163_182.out
     have hns73_1 := NB164_182.out
     have hns73_2 := NB165_182.out
     have hns73_3 := NB178_182.out
     have hms73_0 := NB182_163.out
     have hms73_1 := NB182_164.out
     have hms73_2 := NB182_165.out
     have hms73_3 := NB182_178.out
     have hs74 : w66.cell? ⟨gb182, 6, none⟩ = some (.int .i64 0) := (blk_cell BK182.out 6).trans rfl
     have hfs74 := blk_frozen BK182.out 6
     have hns74_0 := NB163_182.out
     have hns74_1 := NB164_182.out
     have hns74_2 := NB165_182.out
     have hns74_3 := NB178_182.out
     have hms74_0 := NB182_163.out
     have hms74_1 := NB182_164.out
     have hms74_2 := NB182_165.out
     have hms74_3 := NB182_178.out
     have hs75 : w66.cell? ⟨gb182, 7, none⟩ = some (.slice none 0 0) := (blk_cell BK182.out 7).trans rfl
     have hfs75 := blk_frozen BK182.out 7
     have hns75_0 := NB163_182.out
     have hns75_1 := NB164_182.out
     have hns75_2 := NB165_182.out
     have hns75_3 := NB178_182.out
     have hms75_0 := NB182_163.out
     have hms75_1 := NB182_164.out
     have hms75_2 := NB182_165.out
     have hms75_3 := NB182_178.out
     refine sk_ ?_
     refine hK.out _ _ ⟨((cell_far (p := ⟨gb182, _, none⟩) NB178_182.out _).trans (((cell_far (p := ⟨gb182, _, none⟩) NB178_182.out _).trans (((cell_far (p := ⟨gb182, _, none⟩) NB178_182.out _).trans (((cell_far (p := ⟨gb182, _, none⟩) NB178_182.out _).trans (((cell_far (p := ⟨gb182, _, none⟩) NB178_182.out _).trans (((cell_far (p := ⟨gb182, _, none⟩) NB178_182.out _).trans (((cell_far (p := ⟨gb182, _, none⟩) NB178_182.out _).trans (((cell_far (p := ⟨gb182, _, none⟩) NB178_182.out _).trans (hHeld.1)))))))))))))))), ((cell_far (p := ⟨gb182, _, none⟩) NB178_182.out _).trans (((cell_far (p := ⟨gb182, _, none⟩) NB178_182.out _).trans (((cell_far (p := ⟨gb182, _, none⟩) NB178_182.out _).trans (((cell_far (p := ⟨gb182, _, none⟩) NB178_182.out _).trans (((cell_far (p := ⟨gb182, _, none⟩) NB178_182.out _).trans (((cell_far (p := ⟨gb182, _, none⟩) NB178_182.out _).trans (((cell_far (p := ⟨gb182, _, none⟩) NB178_182.out _).trans (((cell_far (p := ⟨gb182, _, none⟩) NB178_182.out _).trans (hHeld.2.1)))))))))))))))), ((cell_far (p := ⟨gb182, _, none⟩) NB178_182.out _).trans (((cell_far (p := ⟨gb182, _, none⟩) NB178_182.out _).trans (((cell_far (p := ⟨gb182, _, none⟩) NB178_182.out _).trans (((cell_far (p := ⟨gb182, _, none⟩) NB178_182.out _).trans (((cell_far (p := ⟨gb182, _, none⟩) NB178_182.out _).trans (((cell_far (p := ⟨gb182, _, none⟩) NB178_182.out _).trans (((cell_far (p := ⟨gb182, _, none⟩) NB178_182.out _).trans (((cell_far (p := ⟨gb182, _, none⟩) NB178_182.out _).trans (hHeld.2.2.1)))))))))))))))), ((cell_far (p := ⟨gb182, _, none⟩) NB178_182.out _).trans (((cell_far (p := ⟨gb182, _, none⟩) NB178_182.out _).trans (((cell_far (p := ⟨gb182, _, none⟩) NB178_182.out _).trans (((cell_far (p := ⟨gb182, _, none⟩) NB178_182.out _).trans (((cell_far (p := ⟨gb182, _, none⟩) NB178_182.out _).trans (((cell_far (p := ⟨gb182, _, none⟩) NB178_182.out _).trans (((cell_far (p := ⟨gb182, _, none⟩) NB178_182.out _).trans (((cell_far (p := ⟨gb182, _, none⟩) NB178_182.out _).trans (hHeld.2.2.2.1)))))))))))))))), ((cell_far (p := ⟨gb182, _, none⟩) NB178_182.out _).trans (((cell_far (p := ⟨gb182, _, none⟩) NB178_182.out _).trans (((cell_far (p := ⟨gb182, _, none⟩) NB178_182.out _).trans (((cell_far (p := ⟨gb182, _, none⟩) NB178_182.out _).trans (((cell_far (p := ⟨gb182, _, none⟩) NB178_182.out _).trans (((cell_far (p := ⟨gb182, _, none⟩) NB178_182.out _).trans (((cell_far (p := ⟨gb182, _, none⟩) NB178_182.out _).trans (((cell_far (p := ⟨gb182, _, none⟩) NB178_182.out _).trans (hHeld.2.2.2.2.1)))))))))))))))), ((cell_far (p := ⟨gb182, _, none⟩) NB178_182.out _).trans (((cell_far (p := ⟨gb182, _, none⟩) NB178_182.out _).trans (((cell_far (p := ⟨gb182, _, none⟩) NB178_182.out _).trans (((cell_far (p := ⟨gb182, _, none⟩) NB178_182.out _).trans (((cell_far (p := ⟨gb182, _, none⟩) NB178_182.out _).trans (((cell_far (p := ⟨gb182, _, none⟩) NB178_182.out _).trans (((cell_far (p := ⟨gb182, _, none⟩) NB178_182.out _).trans (((cell_far (p := ⟨gb182, _, none⟩) NB178_182.out _).trans (hHeld.2.2.2.2.2.1)))))))))))))))), ((cell_far (p := ⟨gb182, _, none⟩) NB163_182.out _).trans (((cell_far (p := ⟨gb182, _, none⟩) NB163_182.out _).trans (((cell_far (p := ⟨gb182, _, none⟩) NB163_182.out _).trans (((cell_far (p := ⟨gb182, _, none⟩) NB163_182.out _).trans (((cell_far (p := ⟨gb182, _, none⟩) NB163_182.out _).trans (((cell_far (p := ⟨gb182, _, none⟩) NB163_182.out _).trans (((cell_far (p := ⟨gb182, _, none⟩) NB163_182.out _).trans (((cell_far (p := ⟨gb182, _, none⟩) NB163_182.out _).trans (hHeld.2.2.2.2.2.2.1)))))))))))))))), ((cell_far (p := ⟨gb182, _, none⟩) NB163_182.out _).trans (((cell_far (p := ⟨gb182, _, none⟩) NB163_182.out _).trans (((cell_far (p := ⟨gb182, _, none⟩) NB163_182.out _).trans (((cell_far (p := ⟨gb182, _, none⟩) NB163_182.out _).trans (((cell_far (p := ⟨gb182, _, none⟩) NB163_182.out _).trans (((cell_far (p := ⟨gb182, _, none⟩) NB163_182.out _).trans (((cell_far (p := ⟨gb182, _, none⟩) NB163_182.out _).trans (((cell_far (p := ⟨gb182, _, none⟩) NB163_182.out _).trans (hHeld.2.2.2.2.2.2.2.1)))))))))))))))), ((cell_far (p := ⟨gb182, _, none⟩) NB163_182.out _).trans (((cell_far (p := ⟨gb182, _, none⟩) NB163_182.out _).trans (((cell_far (p := ⟨gb182, _, none⟩) NB163_182.out _).trans (((cell_far (p := ⟨gb182, _, none⟩) NB163_182.out _).trans (((cell_far (p := ⟨gb182, _, none⟩) NB163_182.out _).trans (((cell_far (p := ⟨gb182, _, none⟩) NB163_182.out _).trans (((cell_far (p := ⟨gb182, _, none⟩) NB163_182.out _).trans (((cell_far (p := ⟨gb182, _, none⟩) NB163_182.out _).trans (hHeld.2.2.2.2.2.2.2.2.1)))))))))))))))), ((cell_far (p := ⟨gb182, _, none⟩) NB163_182.out _).trans (((cell_far (p := ⟨gb182, _, none⟩) NB163_182.out _).trans (((cell_far (p := ⟨gb182, _, none⟩) NB163_182.out _).trans (((cell_far (p := ⟨gb182, _, none⟩) NB163_182.out _).trans (((cell_far (p := ⟨gb182, _, none⟩) NB163_182.out _).trans (((cell_far (p := ⟨gb182, _, none⟩) NB163_182.out _).trans (((cell_far (p := ⟨gb182, _, none⟩) NB163_182.out _).trans (((cell_far (p := ⟨gb182, _, none⟩) NB163_182.out _).trans (hHeld.2.2.2.2.2.2.2.2.2.1)))))))))))))))), ((cell_far (p := ⟨gb182, _, none⟩) NB163_182.out _).trans (((cell_far (p := ⟨gb182, _, none⟩) NB163_182.out _).trans (((cell_far (p := ⟨gb182, _, none⟩) NB163_182.out _).trans (((cell_far (p := ⟨gb182, _, none⟩) NB163_182.out _).trans (((cell_far (p := ⟨gb182, _, none⟩) NB163_182.out _).trans (((cell_far (p := ⟨gb182, _, none⟩) NB163_182.out _).trans (((cell_far (p := ⟨gb182, _, none⟩) NB163_182.out _).trans (((cell_far (p := ⟨gb182, _, none⟩) NB163_182.out _).trans (hHeld.2.2.2.2.2.2.2.2.2.2.1)))))))))))))))), ((cell_far (p := ⟨gb182, _, none⟩) NB163_182.out _).trans (((cell_far (p := ⟨gb182, _, none⟩) NB163_182.out _).trans (((cell_far (p := ⟨gb182, _, none⟩) NB163_182.out _).trans (((cell_far (p := ⟨gb182, _, none⟩) NB163_182.out _).trans (((cell_far (p := ⟨gb182, _, none⟩) NB163_182.out _).trans (((cell_far (p := ⟨gb182, _, none⟩) NB163_182.out _).trans (((cell_far (p := ⟨gb182, _, none⟩) NB163_182.out _).trans (((cell_far (p := ⟨gb182, _, none⟩) NB163_182.out _).trans (hHeld.2.2.2.2.2.2.2.2.2.2.2.1)))))))))))))))), ((cell_far (p := ⟨gb182, _, none⟩) NB163_182.out _).trans (((cell_far (p := ⟨gb182, _, none⟩) NB163_182.out _).trans (((cell_far (p := ⟨gb182, _, none⟩) NB163_182.out _).trans (((cell_far (p := ⟨gb182, _, none⟩) NB163_182.out _).trans (((cell_far (p := ⟨gb182, _, none⟩) NB163_182.out _).trans (((cell_far (p := ⟨gb182, _, none⟩) NB163_182.out _).trans (((cell_far (p := ⟨gb182, _, none⟩) NB163_182.out _).trans (((cell_far (p := ⟨gb182, _, none⟩) NB163_182.out _).trans (hHeld.2.2.2.2.2.2.2.2.2.2.2.2.1)))))))))))))))), ((cell_far (p := ⟨gb182, _, none⟩) NB163_182.out _).trans (((cell_far (p := ⟨gb182, _, none⟩) NB163_182.out _).trans (((cell_far (p := ⟨gb182, _, none⟩) NB163_182.out _).trans (((cell_far (p := ⟨gb182, _, none⟩) NB163_182.out _).trans (((cell_far (p := ⟨gb182, _, none⟩) NB163_182.out _).trans (((cell_far (p := ⟨gb182, _, none⟩) NB163_182.out _).trans (((cell_far (p := ⟨gb182, _, none⟩) NB163_182.out _).trans (((cell_far (p := ⟨gb182, _, none⟩) NB163_182.out _).trans (hHeld.2.2.2.2.2.2.2.2.2.2.2.2.2))))))))))))))))⟩ (fun hHeld => ?_)
     clear hK K
     refine done_ (done_of HT_.out (by kernel_rfl)) ?_
     have H := HX_.out
     clear HX_
     by_cases c36 : 0 ≤ t170
     rotate_left
     ·rw [if_neg c36] at H; exact absurd H (by simp)
     rw [if_pos c36] at H
     have c36b0 : decide (0 ≤ t170) = true := decide_eq_true c36
     clear c36
     by_cases c37 : t170 < (t179.length : Int)
     rotate_left
     ·rw [if_neg c37] at H; exact absurd H (by simp)
     rw [if_pos c37] at H
     have c37b0 : decide (t170 < (t179.length : Int)) = true := decide_eq_true c37
     clear c37
     by_cases c38 : t167 = 1
     ·rw [if_pos c38] at H
      have c38b0 : (t167 == 1) = true := beq_iff_eq.mpr c38
      have c38b1 : (t167 != 1) = false := bne_eq_false_iff_eq.mpr c38
      clear c38
      obtain ⟨ji39, hji39⟩ : ∃ j_ : Int, (mn a0_6 t174) = j_ := ⟨_, rfl⟩
      replace H : (some (t171, t172, t173, wrap64 (t174 - (mn (ji39) (wrap64 (1000000000000 - (rd t179 t170))))), t175, t176, a0_6, (t179.set (t170 : Int).toNat (wrap64 ((rd t179 t170) + (mn (ji39) (wrap64 (1000000000000 - (rd t179 t170))))))), mn (ji39) (wrap64 (1000000000000 - (rd t179 t170))), 0)) = some (r1, r2, r3, r4, r5, r6, r7, r8, r9, r10) := by first | (rw [hji39] at H; exact H) | (simp only [hji39] at H ⊢; exact H)
      (try rw [hji39] at A3)
      (try rw [hji39] at A5)
      (try rw [hji39] at A18)
      (try rw [hji39] at A33)
      (try rw [hji39] at A35)
      have hji39_ : (if t174 < a0_6 then t174 else a0_6) = ji39 := hji39
      obtain ⟨ji40, hji40⟩ : ∃ j_ : Int, (mn (ji39) (wrap64 (1000000000000 - (rd t179 t170)))) = j_ := ⟨_, rfl⟩
      replace H : (some (t171, t172, t173, wrap64 (t174 - (ji40)), t175, t176, a0_6, (t179.set (t170 : Int).toNat (wrap64 ((rd t179 t170) + (ji40)))), ji40, 0)) = some (r1, r2, r3, r4, r5, r6, r7, r8, r9, r10) := by first | (rw [hji40] at H; exact H) | (simp only [hji40] at H ⊢; exact H)
      (try rw [hji40] at A3)
      (try rw [hji40] at A5)
      (try rw [hji40] at A18)
      (try rw [hji40] at A33)
      (try rw [hji40] at A35)
      have hji40_ : (if (wrap64 (1000000000000 - (rd t179 t170))) < (ji39) then (wrap64 (1000000000000 - (rd t179 t170))) else (ji39)) = ji40 := hji40
      obtain ⟨y186, hy186⟩ : ∃ y_ : List Int, y_ = (t179.set (t170 : Int).toNat (wrap64 ((rd t179 t170) + (ji40)))) := ⟨_, rfl⟩
      replace H : (some (t171, t172, t173, wrap64 (t174 - (ji40)), t175, t176, a0_6, y186, ji40, 0)) = some (r1, r2, r3, r4, r5, r6, r7, r8, r9, r10) := by first | (rw [hy186]; with_reducible exact H) | (have H2_ := (Option.bind_some _ _).symm.trans H; rw [hy186]; with_reducible exact H2_) | (have H2_ := (Option.bind_some _ _).symm.trans H; with_reducible exact H2_) | with_reducible exact H | (rw [hy186]; exact H) | exact H
      have Ny186 := Aside0.mk hy186
      clear hy186
      simp only [Option.some.injEq, Prod.mk.injEq] at H
      obtain ⟨rfl, rfl, rfl, rfl, rfl, rfl, rfl, rfl, rfl, rfl⟩ := H
      replace hn182_163 := NB182_163.out
      replace hn163_182 := NB163_182.out
      replace hn182_164 := NB182_164.out
      replace hn164_182 := NB164_182.out
      replace hn182_165 := NB182_165.out
      replace hn165_182 := NB165_182.out
      replace hn182_178 := NB182_178.out
      replace hn178_182 := NB178_182.out
      replace hc182 := ce8_ BK182
      have p183 : 0 ≤ (t170 : Int) := of_decide_eq_true (by first | (with_reducible assumption) | assumption)
      have q183 : t170 < (t179.length : Int) := of_decide_eq_true (by first | (with_reducible assumption) | assumption)
      obtain ⟨ad183, e183, hx183_0⟩ := Kd.at_int (Kd.R_reads' HO181.out).2.2 t170 p183 q183
      cases e183
      have hn183_0 : ad183.block ≠ gb182 := Kd.own_blk (rn_ HO181.out BK182.out)
      have hn183_1 : ad183.block ≠ gb182 := Kd.own_blk (rn_ HO181.out BK182.out)
      have hn183_2 : ad183.block ≠ gb182 := Kd.own_blk (rn_ HO181.out BK182.out)
      have hn183_3 : ad183.block ≠ gb182 := Kd.own_blk (rn_ HO181.out BK182.out)
      have hn183_4 : ad183.block ≠ gb182 := Kd.own_blk (rn_ HO181.out BK182.out)
      have hn183_5 : ad183.block ≠ gb182 := Kd.own_blk (rn_ HO181.out BK182.out)
      have hn183_6 : ad183.block ≠ gb182 := Kd.own_blk (rn_ HO181.out BK182.out)
      have hn183_7 : ad183.block ≠ gb182 := Kd.own_blk (rn_ HO181.out BK182.out)
      replace hx183_0 := (cell_far (p := ⟨gb182, 0, none⟩) (by first | (rw [add_block]; exact hn183_0) | (show (Addr.add _ _).block ≠ _; rw [add_block]; exact hn183_0) | exact hn183_0) (.int .i64 t171)).trans hx183_0
      replace hx183_0 := (cell_far (p := ⟨gb182, 1, none⟩) (by first | (rw [add_block]; exact hn183_1) | (show (Addr.add _ _).block ≠ _; rw [add_block]; exact hn183_1) | exact hn183_1) (.int .i64 t172)).trans hx183_0
      replace hx183_0 := (cell_far (p := ⟨gb182, 2, none⟩) (by first | (rw [add_block]; exact hn183_2) | (show (Addr.add _ _).block ≠ _; rw [add_block]; exact hn183_2) | exact hn183_2) (.int .i64 t173)).trans hx183_0
      replace hx183_0 := (cell_far (p := ⟨gb182, 3, none⟩) (by first | (rw [add_block]; exact hn183_3) | (show (Addr.add _ _).block ≠ _; rw [add_block]; exact hn183_3) | exact hn183_3) (.int .i64 t174)).trans hx183_0
      replace hx183_0 := (cell_far (p := ⟨gb182, 4, none⟩) (by first | (rw [add_block]; exact hn183_4) | (show (Addr.add _ _).block ≠ _; rw [add_block]; exact hn183_4) | exact hn183_4) (.int .i64 t175)).trans hx183_0
      replace hx183_0 := (cell_far (p := ⟨gb182, 5, none⟩) (by first | (rw [add_block]; exact hn183_5) | (show (Addr.add _ _).block ≠ _; rw [add_block]; exact hn183_5) | exact hn183_5) (.int .u64 t176)).trans hx183_0
      replace hx183_0 := (cell_far (p := ⟨gb182, 6, none⟩) (by first | (rw [add_block]; exact hn183_6) | (show (Addr.add _ _).block ≠ _; rw [add_block]; exact hn183_6) | exact hn183_6) (.int .i64 a0_6)).trans hx183_0
      replace hx183_0 := (cell_far (p := ⟨gb182, 7, none⟩) (by first | (rw [add_block]; exact hn183_7) | (show (Addr.add _ _).block ≠ _; rw [add_block]; exact hn183_7) | exact hn183_7) (.slice (some ad183) t179.length co67)).trans hx183_0
      clear hn183_0
      clear hn183_1
      clear hn183_2
      clear hn183_3
      clear hn183_4
      clear hn183_5
      clear hn183_6
      clear hn183_7
      replace p183 := eq_true p183
      replace q183 := eq_true q183
      try go_wp2_with (first | ((with_reducible refine gate_dst (N := 14) rfl ?_); refine bx_ #[.int .i64 0] 74 ?_; intro gb184 hg w81 BK184 hb; have GW184 := bz_ w hg; have GE184 := GW184; have NB163_184 := Aside0.mk ((by rw [hg]; exact Nat.ne_of_lt (blk_lt (g := gb163) (o := .cells #[.int .i64 a0_0, .int .i64 a0_1, .int .i64 a0_2, .int .i64 a0_3, .int .i64 a0_4, .int .u64 a0_5, .int .i64 a0_6, .slice A0_7 l0_7.length c0_7] 29 (0, 0)) (bt_ BK163)) : gb163 ≠ gb184)); have NB184_163 := Aside0.mk ((by rw [hg]; exact Nat.ne_of_gt (blk_lt (g := gb163) (o := .cells #[.int .i64 a0_0, .int .i64 a0_1, .int .i64 a0_2, .int .i64 a0_3, .int .i64 a0_4, .int .u64 a0_5, .int .i64 a0_6, .slice A0_7 l0_7.length c0_7] 29 (0, 0)) (bt_ BK163)) : gb184 ≠ gb163)); have NB164_184 := Aside0.mk ((by rw [hg]; exact Nat.ne_of_lt (blk_lt (g := gb164) (o := .cells #[.int .u8 a1_0, .int .i64 a1_1, .int .u64 a1_2, .int .i64 a1_3] 31 (0, 0)) (bt_ BK164)) : gb164 ≠ gb184)); have NB184_164 := Aside0.mk ((by rw [hg]; exact Nat.ne_of_gt (blk_lt (g := gb164) (o := .cells #[.int .u8 a1_0, .int .i64 a1_1, .int .u64 a1_2, .int .i64 a1_3] 31 (0, 0)) (bt_ BK164)) : gb184 ≠ gb164)); have NB165_184 := Aside0.mk ((by rw [hg]; exact Nat.ne_of_lt (blk_lt (g := gb165) (o := .cells #[.int .i64 0, .int .i64 0, .int .i64 0, .int .i64 0, .int .i64 0, .int .u64 0, .int .i64 0, .slice none 0 0] 29 (0, 0)) (bt_ BK165)) : gb165 ≠ gb184)); have NB184_165 := Aside0.mk ((by rw [hg]; exact Nat.ne_of_gt (blk_lt (g := gb165) (o := .cells #[.int .i64 0, .int .i64 0, .int .i64 0, .int .i64 0, .int .i64 0, .int .u64 0, .int .i64 0, .slice none 0 0] 29 (0, 0)) (bt_ BK165)) : gb184 ≠ gb165)); have NB178_184 := Aside0.mk ((by rw [hg]; exact Nat.ne_of_lt (blk_lt (g := gb178) (o := .cells #[.int .i64 t171, .int .i64 t172, .int .i64 t173, .int .i64 t174, .int .i64 t175, .int .u64 t176] 26 (0, 0)) (bt_ BK178)) : gb178 ≠ gb184)); have NB184_178 := Aside0.mk ((by rw [hg]; exact Nat.ne_of_gt (blk_lt (g := gb178) (o := .cells #[.int .i64 t171, .int .i64 t172, .int .i64 t173, .int .i64 t174, .int .i64 t175, .int .u64 t176] 26 (0, 0)) (bt_ BK178)) : gb184 ≠ gb178)); have NB182_184 := Aside0.mk ((by rw [hg]; exact Nat.ne_of_lt (blk_lt (g := gb182) (o := .cells #[.int .i64 t171, .int .i64 t172, .int .i64 t173, .int .i64 t174, .int .i64 t175, .int .u64 t176, .int .i64 a0_6, .slice (some ad183) t179.length co67] 29 (0, 0)) (bp8_ (bq_ BK182))) : gb182 ≠ gb184)); have NB184_182 := Aside0.mk ((by rw [hg]; exact Nat.ne_of_gt (blk_lt (g := gb182) (o := .cells #[.int .i64 t171, .int .i64 t172, .int .i64 t173, .int .i64 t174, .int .i64 t175, .int .u64 t176, .int .i64 a0_6, .slice (some ad183) t179.length co67] 29 (0, 0)) (bp8_ (bq_ BK182))) : gb184 ≠ gb182)); replace HO181 := Aside0.mk (Kd.R_below (by (with_reducible repeat (first | apply Kd.R_alloc | apply Kd.R_drewN | apply Kd.R_drew)); exact (Kd.R_mono (rf8_ (g := gb182) (Kd.R_types HO181.out BK182.out (by decide)) (fun _ hk => hk.2)) (fun _ h_ => h_.1))) hb); replace BK163 := bf_ BK163 hb; replace BK164 := bf_ BK164 hb; replace BK165 := bf_ BK165 hb; replace BK178 := bf_ BK178 hb; replace BK182 := Aside0.mk (blk_below (g := gb182) (o := .cells #[.int .i64 t171, .int .i64 t172, .int .i64 t173, .int .i64 t174, .int .i64 t175, .int .u64 t176, .int .i64 a0_6, .slice (some ad183) t179.length co67] 29 (0, 0)) (bp8_ (bq_ BK182)) hb); replace HB := bs_ w hb; clear hb hg; replace hn184_163 := NB184_163.out; replace hn163_184 := NB163_184.out; replace hn184_164 := NB184_164.out; replace hn164_184 := NB164_184.out; replace hn184_165 := NB184_165.out; replace hn165_184 := NB165_184.out; replace hn184_178 := NB184_178.out; replace hn178_184 := NB178_184.out; replace hn184_182 := NB184_182.out; replace hn182_184 := NB182_184.out; replace hc184 := ce1_ BK184) | ((with_reducible refine gate_store (t := 74) (p := 14) rfl ?_); refine store_event (t := 74) (p := 14) (v := ?vo_w88) (w1 := (w81.setCell ⟨gb184, 0, none⟩ (.int .i64 t168))) ?hg ?ho ?hn ?hr ?_; (case ho => rfl); (case hg => rfl); (case hn => rfl); (case hr => first | (go_simp; done) | (go_simp; rfl)); intro w88 hw; replace HO181 : Aside0 (Kd.R (Kd.int .i64) 2 w88 w.heap.size (fun _ => True) (.slice (some ad183) t179.length co67) t179) := ⟨(by rw [hw]; exact (by (with_reducible repeat (first | apply Kd.R_alloc | apply Kd.R_drewN | apply Kd.R_drew)); exact Kd.R_mono (Kd.R_far (p := ⟨gb184, 0, none⟩) (Kd.R_types HO181.out BK184.out (by decide)) (fun _ hk => hk.2) (.int .i64 t168)) (fun _ hk => trivial)))⟩; replace BK163 : Aside0 (w88.heap[gb163]? = some (.cells #[.int .i64 a0_0, .int .i64 a0_1, .int .i64 a0_2, .int .i64 a0_3, .int .i64 a0_4, .int .u64 a0_5, .int .i64 a0_6, .slice A0_7 l0_7.length c0_7] 29 (0, 0))) := ⟨(by rw [hw]; exact (bt_ BK163))⟩; replace BK164 : Aside0 (w88.heap[gb164]? = some (.cells #[.int .u8 a1_0, .int .i64 a1_1, .int .u64 a1_2, .int .i64 a1_3] 31 (0, 0))) := ⟨(by rw [hw]; exact (bt_ BK164))⟩; replace BK165 : Aside0 (w88.heap[gb165]? = some (.cells #[.int .i64 0, .int .i64 0, .int .i64 0, .int .i64 0, .int .i64 0, .int .u64 0, .int .i64 0, .slice none 0 0] 29 (0, 0))) := ⟨(by rw [hw]; exact (bt_ BK165))⟩; replace BK178 : Aside0 (w88.heap[gb178]? = some (.cells #[.int .i64 t171, .int .i64 t172, .int .i64 t173, .int .i64 t174, .int .i64 t175, .int .u64 t176] 26 (0, 0))) := ⟨(by rw [hw]; exact (bt_ BK178))⟩; replace BK182 : Aside0 (w88.heap[gb182]? = some (.cells #[.int .i64 t171, .int .i64 t172, .int .i64 t173, .int .i64 t174, .int .i64 t175, .int .u64 t176, .int .i64 a0_6, .slice (some ad183) t179.length co67] 29 (0, 0))) := ⟨(by rw [hw]; exact (bt_ BK182))⟩; replace BK184 : Aside0 (w88.heap[gb184]? = some (.cells #[.int .i64 t168] 74 (0, 0))) := ⟨(by rw [hw]; exact (bp1_ (bq_ BK184)))⟩; replace HB : Aside0 (Below w.heap.size w w88) := ⟨(by rw [hw]; exact bh_)⟩; clear hw; replace hc163 := ce8_ BK163; replace hc178 := ce6_ BK178; replace hc182 := ce8_ BK182) | ((with_reducible refine gate_store (t := 2) (p := 78) rfl ?_); refine store_event (t := 2) (p := 78) (v := ?vo_w92) (w1 := (w88.setCell ⟨gb182, 3, none⟩ (.int .i64 (wrap64 (t174 - (ji40)))))) ?hg ?ho ?hn ?hr ?_; (case ho => rfl); (case hg => rfl); (case hn => rfl); (case hr => first | (go_simp; done) | (go_simp; rfl)); intro w92 hw; replace HO181 : Aside0 (Kd.R (Kd.int .i64) 2 w92 w.heap.size (fun _ => True) (.slice (some ad183) t179.length co67) t179) := ⟨(by rw [hw]; exact (by (with_reducible repeat (first | apply Kd.R_alloc | apply Kd.R_drewN | apply Kd.R_drew)); exact Kd.R_mono (Kd.R_far (p := ⟨gb182, 3, none⟩) (Kd.R_types HO181.out BK182.out (by decide)) (fun _ hk => hk.2) (.int .i64 (wrap64 (t174 - (ji40))))) (fun _ hk => trivial)))⟩; replace BK163 : Aside0 (w92.heap[gb163]? = some (.cells #[.int .i64 a0_0, .int .i64 a0_1, .int .i64 a0_2, .int .i64 a0_3, .int .i64 a0_4, .int .u64 a0_5, .int .i64 a0_6, .slice A0_7 l0_7.length c0_7] 29 (0, 0))) := ⟨(by rw [hw]; exact (bt_ BK163))⟩; replace BK164 : Aside0 (w92.heap[gb164]? = some (.cells #[.int .u8 a1_0, .int .i64 a1_1, .int .u64 a1_2, .int .i64 a1_3] 31 (0, 0))) := ⟨(by rw [hw]; exact (bt_ BK164))⟩; replace BK165 : Aside0 (w92.heap[gb165]? = some (.cells #[.int .i64 0, .int .i64 0, .int .i64 0, .int .i64 0, .int .i64 0, .int .u64 0, .int .i64 0, .slice none 0 0] 29 (0, 0))) := ⟨(by rw [hw]; exact (bt_ BK165))⟩; replace BK178 : Aside0 (w92.heap[gb178]? = some (.cells #[.int .i64 t171, .int .i64 t172, .int .i64 t173, .int .i64 t174, .int .i64 t175, .int .u64 t176] 26 (0, 0))) := ⟨(by rw [hw]; exact (bt_ BK178))⟩; replace BK182 : Aside0 (w92.heap[gb182]? = some (.cells #[.int .i64 t171, .int .i64 t172, .int .i64 t173, .int .i64 (wrap64 (t174 - (ji40))), .int .i64 t175, .int .u64 t176, .int .i64 a0_6, .slice (some ad183) t179.length co67] 29 (0, 0))) := ⟨(by rw [hw]; exact (blk_put (cs := #[.int .i64 t171, .int .i64 t172, .int .i64 t173, .int .i64 t174, .int .i64 t175, .int .u64 t176, .int .i64 a0_6, .slice (some ad183) t179.length co67]) (bq_ BK182) 3 _ rfl))⟩; replace BK184 : Aside0 (w92.heap[gb184]? = some (.cells #[.int .i64 t168] 74 (0, 0))) := ⟨(by rw [hw]; exact (bt_ BK184))⟩; replace HB : Aside0 (Below w.heap.size w w92) := ⟨(by rw [hw]; exact bh_)⟩; clear hw; have hcz93_0 : w92.cell? ⟨gb182, 0, none⟩ = some (.int .i64 t171) := (blk_cell BK182.out 0).trans rfl; have hcz93_1 : w92.cell? ⟨gb182, 1, none⟩ = some (.int .i64 t172) := (blk_cell BK182.out 1).trans rfl; have hcz93_2 : w92.cell? ⟨gb182, 2, none⟩ = some (.int .i64 t173) := (blk_cell BK182.out 2).trans rfl; have hcz93_3 : w92.cell? ⟨gb182, 3, none⟩ = some (.int .i64 (wrap64 (t174 - (ji40)))) := (blk_cell BK182.out 3).trans rfl; have hcz93_4 : w92.cell? ⟨gb182, 4, none⟩ = some (.int .i64 t175) := (blk_cell BK182.out 4).trans rfl; have hcz93_5 : w92.cell? ⟨gb182, 5, none⟩ = some (.int .u64 t176) := (blk_cell BK182.out 5).trans rfl; have hcz93_6 : w92.cell? ⟨gb182, 6, none⟩ = some (.int .i64 a0_6) := (blk_cell BK182.out 6).trans rfl; have hcz93_7 : w92.cell? ⟨gb182, 7, none⟩ = some (.slice (some ad183) t179.length co67) := (blk_cell BK182.out 7).trans rfl; have hfz93_0 := blk_frozen BK182.out 0; have hfz93_1 := blk_frozen BK182.out 1; have hfz93_2 := blk_frozen BK182.out 2; have hfz93_3 := blk_frozen BK182.out 3; have hfz93_4 := blk_frozen BK182.out 4; have hfz93_5 := blk_frozen BK182.out 5; have hfz93_6 := blk_frozen BK182.out 6; have hfz93_7 := blk_frozen BK182.out 7; have p185 : 0 ≤ (t170 : Int) := of_decide_eq_true (by first | (with_reducible assumption) | assumption); have q185 : t170 < (t179.length : Int) := of_decide_eq_true (by first | (with_reducible assumption) | assumption); obtain ⟨ad185, e185, hx185_0⟩ := Kd.at_int (Kd.R_reads' HO181.out).2.2 t170 p185 q185; obtain rfl : ad183 = ad185 := (by injection e185); replace p185 := eq_true p185; replace q185 := eq_true q185; have p41 : 0 ≤ (t170 : Int) := of_decide_eq_true (by first | (with_reducible assumption) | assumption); have q41 : (t170 : Int) < ((t179.length : Int) : Int) := of_decide_eq_true (by first | (with_reducible assumption) | assumption); obtain ⟨go41, co41, eo41, gb41, gl41, cl41, HG41⟩ := Kd.R_form HO181.out (by omega); (first | cases eo41 | (injection eo41 with ea_ en_ ec_; (first | subst ea_ | (injection ea_ with ea_; subst ea_)); subst ec_; clear en_)); have GB41 := Aside0.mk gb41; have GG41 := Aside0.mk HG41; clear gb41 gl41 HG41; (first | simp only [add_plain] at hx183_0 | skip); (first | simp only [add_plain] at hx185_0 | skip); obtain ⟨hx41_0, hf41_0⟩ := Kd.R_celln 0 HO181.out (t170 : Int) p41 q41; replace p41 := eq_true p41; replace q41 := eq_true q41; obtain ⟨hy94_, hz94_⟩ := Kd.R_celln 0 HO181.out (t170 : Int) (of_decide_eq_true (by first | (with_reducible assumption) | assumption)) (of_decide_eq_true (by first | (with_reducible assumption) | assumption)); have HP94 := Kd.R_putg HO181.out (t170 : Int) (wrap64 ((rd t179 t170) + (ji40)))) | ((with_reducible refine gate_store (t := 2) (p := 86) rfl ?_); refine store_event (t := 2) (p := 86) (v := ?vo_w95) (w1 := (w92.setCell ⟨go41, (t170 : Int).toNat, none⟩ (.int .i64 (wrap64 ((rd t179 t170) + (ji40)))))) ?hg ?ho ?hn ?hr ?_; (case ho => rfl); (case hg => rfl); (case hn => rfl); (case hr => first | (go_simp; done) | (go_simp; rfl)); intro w95 hw; have hg : w92.grownBy w95 (some go41) := (by rw [hw]; exact HP94.2); have hp_ : Kd.R (Kd.int .i64) 2 w95 w.heap.size (fun _ => True) (.slice (some ⟨go41, 0, none⟩) t179.length co67) y186 := (by rw [hw, Ny186.out]; exact HP94.1); clear HP94; replace BK163 := Aside0.mk (blk_grown (g := gb163) (o := .cells #[.int .i64 a0_0, .int .i64 a0_1, .int .i64 a0_2, .int .i64 a0_3, .int .i64 a0_4, .int .u64 a0_5, .int .i64 a0_6, .slice A0_7 l0_7.length c0_7] 29 (0, 0)) (bq_ BK163) hg (Kd.R_ne HO181.out BK163.out (by decide))); replace BK164 := Aside0.mk (blk_grown (g := gb164) (o := .cells #[.int .u8 a1_0, .int .i64 a1_1, .int .u64 a1_2, .int .i64 a1_3] 31 (0, 0)) (bq_ BK164) hg (Kd.R_ne HO181.out BK164.out (by decide))); replace BK165 := Aside0.mk (blk_grown (g := gb165) (o := .cells #[.int .i64 0, .int .i64 0, .int .i64 0, .int .i64 0, .int .i64 0, .int .u64 0, .int .i64 0, .slice none 0 0] 29 (0, 0)) (bq_ BK165) hg (Kd.R_ne HO181.out BK165.out (by decide))); replace BK178 := Aside0.mk (blk_grown (g := gb178) (o := .cells #[.int .i64 t171, .int .i64 t172, .int .i64 t173, .int .i64 t174, .int .i64 t175, .int .u64 t176] 26 (0, 0)) (bq_ BK178) hg (Kd.R_ne HO181.out BK178.out (by decide))); replace BK182 := Aside0.mk (blk_grown (g := gb182) (o := .cells #[.int .i64 t171, .int .i64 t172, .int .i64 t173, .int .i64 (wrap64 (t174 - (ji40))), .int .i64 t175, .int .u64 t176, .int .i64 a0_6, .slice (some ⟨go41, 0, none⟩) t179.length co67] 29 (0, 0)) (bq_ BK182) hg (Kd.R_ne HO181.out BK182.out (by decide))); replace BK184 := Aside0.mk (blk_grown (g := gb184) (o := .cells #[.int .i64 t168] 74 (0, 0)) (bq_ BK184) hg (Kd.R_ne HO181.out BK184.out (by decide))); replace HO181 := Aside0.mk (hp_); replace HB := Aside0.mk ((by rw [hw]; exact below_set (HB.out) GB41.out : Below w.heap.size w w95)); clear hg hw hp_; have hcz96_0 : w95.cell? ⟨gb182, 0, none⟩ = some (.int .i64 t171) := (blk_cell BK182.out 0).trans rfl; have hcz96_1 : w95.cell? ⟨gb182, 1, none⟩ = some (.int .i64 t172) := (blk_cell BK182.out 1).trans rfl; have hcz96_2 : w95.cell? ⟨gb182, 2, none⟩ = some (.int .i64 t173) := (blk_cell BK182.out 2).trans rfl; have hcz96_3 : w95.cell? ⟨gb182, 3, none⟩ = some (.int .i64 (wrap64 (t174 - (ji40)))) := (blk_cell BK182.out 3).trans rfl; have hcz96_4 : w95.cell? ⟨gb182, 4, none⟩ = some (.int .i64 t175) := (blk_cell BK182.out 4).trans rfl; have hcz96_5 : w95.cell? ⟨gb182, 5, none⟩ = some (.int .u64 t176) := (blk_cell BK182.out 5).trans rfl; have hcz96_6 : w95.cell? ⟨gb182, 6, none⟩ = some (.int .i64 a0_6) := (blk_cell BK182.out 6).trans rfl; have hcz96_7 : w95.cell? ⟨gb182, 7, none⟩ = some (.slice (some ⟨go41, 0, none⟩) t179.length co67) := (blk_cell BK182.out 7).trans rfl; have hfz96_0 := blk_frozen BK182.out 0; have hfz96_1 := blk_frozen BK182.out 1; have hfz96_2 := blk_frozen BK182.out 2; have hfz96_3 := blk_frozen BK182.out 3; have hfz96_4 := blk_frozen BK182.out 4; have hfz96_5 := blk_frozen BK182.out 5; have hfz96_6 := blk_frozen BK182.out 6; have hfz96_7 := blk_frozen BK182.out 7; replace hc165 := ce8_ BK165))
      refine bodyPost_ret (results_ctt rfl _ _ gb165 29 #[.int .i64 t171, .int .i64 t172, .int .i64 t173, .int .i64 (wrap64 (t174 - (ji40))), .int .i64 t175, .int .u64 t176, .int .i64 a0_6, .slice (some ⟨go41, 0, none⟩) t179.length co67] (0, 0) _ rfl (bp8_ (bq_ BK165)) Try.underlying29 rfl (by kernel_rfl)) rfl ?_
      exact ⟨_, by first | rfl | (simp [errW_none, errW_some] <;> rfl) | (simp only [← hji39, ← hji40]; first | rfl | (simp [errW_none, errW_some] <;> rfl)) | (simp [*, errW_none, errW_some] <;> rfl), by (with_reducible repeat (first | apply Kd.R_alloc | apply Kd.R_drewN | apply Kd.R_drew)); exact Kd.R_mono (rf8_ (g := gb165) (Kd.R_types HO181.out BK165.out (by decide)) (fun _ hk => hk.2)) (fun _ hk => trivial), by repeat (first | (with_reducible first | exact HB.out | apply below_alloc | apply pw_below_drewN | apply below_drew1 | refine below_set ?_ GE163.out | refine below_set ?_ GE164.out | refine below_set ?_ GE165.out | refine below_set ?_ GE178.out | refine below_set ?_ GE182.out | refine below_set ?_ GE184.out) | exact HB.out)⟩
     ·rw [if_neg c38] at H
      have c38b0 : (t167 == 1) = false := beq_eq_false_iff_ne.mpr c38
      have c38b1 : (t167 != 1) = true := bne_iff_ne.mpr c38
      by_cases c98 : t167 = 2
      ·rw [if_pos c98] at H
       have c98b0 : (t167 == 2) = true := beq_iff_eq.mpr c98
       have c98b1 : (t167 != 2) = false := bne_eq_false_iff_eq.mpr c98
       clear c98
       by_cases c99 : (rd t179 t170) < t169
       ·rw [if_pos c99] at H
        have c99b0 : decide ((rd t179 t170) < t169) = true := decide_eq_true c99
        clear c99
        simp only [Option.some.injEq, Prod.mk.injEq] at H
        obtain ⟨rfl, rfl, rfl, rfl, rfl, rfl, rfl, rfl, rfl, rfl⟩ := H
        replace hn182_163 := NB182_163.out
        replace hn163_182 := NB163_182.out
        replace hn182_164 := NB182_164.out
        replace hn164_182 := NB164_182.out
        replace hn182_165 := NB182_165.out
        replace hn165_182 := NB165_182.out
        replace hn182_178 := NB182_178.out
        replace hn178_182 := NB178_182.out
        replace hc182 := ce8_ BK182
        have p183 : 0 ≤ (t170 : Int) := of_decide_eq_true (by first | (with_reducible assumption) | assumption)
        have q183 : t170 < (t179.length : Int) := of_decide_eq_true (by first | (with_reducible assumption) | assumption)
        obtain ⟨ad183, e183, hx183_0⟩ := Kd.at_int (Kd.R_reads' HO181.out).2.2 t170 p183 q183
        cases e183
        have hn183_0 : ad183.block ≠ gb182 := Kd.own_blk (rn_ HO181.out BK182.out)
        have hn183_1 : ad183.block ≠ gb182 := Kd.own_blk (rn_ HO181.out BK182.out)
        have hn183_2 : ad183.block ≠ gb182 := Kd.own_blk (rn_ HO181.out BK182.out)
        have hn183_3 : ad183.block ≠ gb182 := Kd.own_blk (rn_ HO181.out BK182.out)
        have hn183_4 : ad183.block ≠ gb182 := Kd.own_blk (rn_ HO181.out BK182.out)
        have hn183_5 : ad183.block ≠ gb182 := Kd.own_blk (rn_ HO181.out BK182.out)
        have hn183_6 : ad183.block ≠ gb182 := Kd.own_blk (rn_ HO181.out BK182.out)
        have hn183_7 : ad183.block ≠ gb182 := Kd.own_blk (rn_ HO181.out BK182.out)
        replace hx183_0 := (cell_far (p := ⟨gb182, 0, none⟩) (by first | (rw [add_block]; exact hn183_0) | (show (Addr.add _ _).block ≠ _; rw [add_block]; exact hn183_0) | exact hn183_0) (.int .i64 t171)).trans hx183_0
        replace hx183_0 := (cell_far (p := ⟨gb182, 1, none⟩) (by first | (rw [add_block]; exact hn183_1) | (show (Addr.add _ _).block ≠ _; rw [add_block]; exact hn183_1) | exact hn183_1) (.int .i64 t172)).trans hx183_0
        replace hx183_0 := (cell_far (p := ⟨gb182, 2, none⟩) (by first | (rw [add_block]; exact hn183_2) | (show (Addr.add _ _).block ≠ _; rw [add_block]; exact hn183_2) | exact hn183_2) (.int .i64 t173)).trans hx183_0
        replace hx183_0 := (cell_far (p := ⟨gb182, 3, none⟩) (by first | (rw [add_block]; exact hn183_3) | (show (Addr.add _ _).block ≠ _; rw [add_block]; exact hn183_3) | exact hn183_3) (.int .i64 t174)).trans hx183_0
        replace hx183_0 := (cell_far (p := ⟨gb182, 4, none⟩) (by first | (rw [add_block]; exact hn183_4) | (show (Addr.add _ _).block ≠ _; rw [add_block]; exact hn183_4) | exact hn183_4) (.int .i64 t175)).trans hx183_0
        replace hx183_0 := (cell_far (p := ⟨gb182, 5, none⟩) (by first | (rw [add_block]; exact hn183_5) | (show (Addr.add _ _).block ≠ _; rw [add_block]; exact hn183_5) | exact hn183_5) (.int .u64 t176)).trans hx183_0
        replace hx183_0 := (cell_far (p := ⟨gb182, 6, none⟩) (by first | (rw [add_block]; exact hn183_6) | (show (Addr.add _ _).block ≠ _; rw [add_block]; exact hn183_6) | exact hn183_6) (.int .i64 a0_6)).trans hx183_0
        replace hx183_0 := (cell_far (p := ⟨gb182, 7, none⟩) (by first | (rw [add_block]; exact hn183_7) | (show (Addr.add _ _).block ≠ _; rw [add_block]; exact hn183_7) | exact hn183_7) (.slice (some ad183) t179.length co67)).trans hx183_0
        clear hn183_0
        clear hn183_1
        clear hn183_2
        clear hn183_3
        clear hn183_4
        clear hn183_5
        clear hn183_6
        clear hn183_7
        replace p183 := eq_true p183
        replace q183 := eq_true q183
        try go_wp2_with (first | ((with_reducible refine gate_dst (N := 15) rfl ?_); refine bx_ #[.int .i64 0, .int .i64 0] 76 ?_; intro gb187 hg w139 BK187 hb; have GW187 := bz_ w hg; have GE187 := GW187; have NB163_187 := Aside0.mk ((by rw [hg]; exact Nat.ne_of_lt (blk_lt (g := gb163) (o := .cells #[.int .i64 a0_0, .int .i64 a0_1, .int .i64 a0_2, .int .i64 a0_3, .int .i64 a0_4, .int .u64 a0_5, .int .i64 a0_6, .slice A0_7 l0_7.length c0_7] 29 (0, 0)) (bt_ BK163)) : gb163 ≠ gb187)); have NB187_163 := Aside0.mk ((by rw [hg]; exact Nat.ne_of_gt (blk_lt (g := gb163) (o := .cells #[.int .i64 a0_0, .int .i64 a0_1, .int .i64 a0_2, .int .i64 a0_3, .int .i64 a0_4, .int .u64 a0_5, .int .i64 a0_6, .slice A0_7 l0_7.length c0_7] 29 (0, 0)) (bt_ BK163)) : gb187 ≠ gb163)); have NB164_187 := Aside0.mk ((by rw [hg]; exact Nat.ne_of_lt (blk_lt (g := gb164) (o := .cells #[.int .u8 a1_0, .int .i64 a1_1, .int .u64 a1_2, .int .i64 a1_3] 31 (0, 0)) (bt_ BK164)) : gb164 ≠ gb187)); have NB187_164 := Aside0.mk ((by rw [hg]; exact Nat.ne_of_gt (blk_lt (g := gb164) (o := .cells #[.int .u8 a1_0, .int .i64 a1_1, .int .u64 a1_2, .int .i64 a1_3] 31 (0, 0)) (bt_ BK164)) : gb187 ≠ gb164)); have NB165_187 := Aside0.mk ((by rw [hg]; exact Nat.ne_of_lt (blk_lt (g := gb165) (o := .cells #[.int .i64 0, .int .i64 0, .int .i64 0, .int .i64 0, .int .i64 0, .int .u64 0, .int .i64 0, .slice none 0 0] 29 (0, 0)) (bt_ BK165)) : gb165 ≠ gb187)); have NB187_165 := Aside0.mk ((by rw [hg]; exact Nat.ne_of_gt (blk_lt (g := gb165) (o := .cells #[.int .i64 0, .int .i64 0, .int .i64 0, .int .i64 0, .int .i64 0, .int .u64 0, .int .i64 0, .slice none 0 0] 29 (0, 0)) (bt_ BK165)) : gb187 ≠ gb165)); have NB178_187 := Aside0.mk ((by rw [hg]; exact Nat.ne_of_lt (blk_lt (g := gb178) (o := .cells #[.int .i64 t171, .int .i64 t172, .int .i64 t173, .int .i64 t174, .int .i64 t175, .int .u64 t176] 26 (0, 0)) (bt_ BK178)) : gb178 ≠ gb187)); have NB187_178 := Aside0.mk ((by rw [hg]; exact Nat.ne_of_gt (blk_lt (g := gb178) (o := .cells #[.int .i64 t171, .int .i64 t172, .int .i64 t173, .int .i64 t174, .int .i64 t175, .int .u64 t176] 26 (0, 0)) (bt_ BK178)) : gb187 ≠ gb178)); have NB182_187 := Aside0.mk ((by rw [hg]; exact Nat.ne_of_lt (blk_lt (g := gb182) (o := .cells #[.int .i64 t171, .int .i64 t172, .int .i64 t173, .int .i64 t174, .int .i64 t175, .int .u64 t176, .int .i64 a0_6, .slice (some ad183) t179.length co67] 29 (0, 0)) (bp8_ (bq_ BK182))) : gb182 ≠ gb187)); have NB187_182 := Aside0.mk ((by rw [hg]; exact Nat.ne_of_gt (blk_lt (g := gb182) (o := .cells #[.int .i64 t171, .int .i64 t172, .int .i64 t173, .int .i64 t174, .int .i64 t175, .int .u64 t176, .int .i64 a0_6, .slice (some ad183) t179.length co67] 29 (0, 0)) (bp8_ (bq_ BK182))) : gb187 ≠ gb182)); replace HO181 := Aside0.mk (Kd.R_below (by (with_reducible repeat (first | apply Kd.R_alloc | apply Kd.R_drewN | apply Kd.R_drew)); exact (Kd.R_mono (rf8_ (g := gb182) (Kd.R_types HO181.out BK182.out (by decide)) (fun _ hk => hk.2)) (fun _ h_ => h_.1))) hb); replace BK163 := bf_ BK163 hb; replace BK164 := bf_ BK164 hb; replace BK165 := bf_ BK165 hb; replace BK178 := bf_ BK178 hb; replace BK182 := Aside0.mk (blk_below (g := gb182) (o := .cells #[.int .i64 t171, .int .i64 t172, .int .i64 t173, .int .i64 t174, .int .i64 t175, .int .u64 t176, .int .i64 a0_6, .slice (some ad183) t179.length co67] 29 (0, 0)) (bp8_ (bq_ BK182)) hb); replace HB := bs_ w hb; clear hb hg; replace hn187_163 := NB187_163.out; replace hn163_187 := NB163_187.out; replace hn187_164 := NB187_164.out; replace hn164_187 := NB164_187.out; replace hn187_165 := NB187_165.out; replace hn165_187 := NB165_187.out; replace hn187_178 := NB187_178.out; replace hn178_187 := NB178_187.out; replace hn187_182 := NB187_182.out; replace hn182_187 := NB182_187.out; replace hc187 := ce2_ BK187; replace hc182 := ce8_ BK182; replace hc165 := ce8_ BK165))
        refine bodyPost_ret (results_ctt rfl _ _ gb165 29 #[.int .i64 t171, .int .i64 t172, .int .i64 t173, .int .i64 t174, .int .i64 t175, .int .u64 t176, .int .i64 a0_6, .slice (some ad183) t179.length co67] (0, 0) _ rfl (bp8_ (bt_ BK165)) Try.underlying29 rfl (by kernel_rfl)) rfl ?_
        exact ⟨_, by first | rfl | (simp [errW_none, errW_some] <;> rfl) | (simp [*, errW_none, errW_some] <;> rfl), by (with_reducible repeat (first | apply Kd.R_alloc | apply Kd.R_drewN | apply Kd.R_drew)); exact Kd.R_mono (rf8_ (g := gb165) (Kd.R_far (p := ⟨gb187, 1, none⟩) (Kd.R_far (p := ⟨gb187, 0, none⟩) (Kd.R_types (Kd.R_types HO181.out BK187.out (by decide)) BK165.out (by decide)) (fun _ hk => hk.1.2) (.int .i64 t168)) (fun _ hk => hk.1.2) (.int .i64 t169)) (fun _ hk => hk.2)) (fun _ hk => trivial), by repeat (first | (with_reducible first | exact HB.out | apply below_alloc | apply pw_below_drewN | apply below_drew1 | refine below_set ?_ GE163.out | refine below_set ?_ GE164.out | refine below_set ?_ GE165.out | refine below_set ?_ GE178.out | refine below_set ?_ GE182.out | refine below_set ?_ GE187.out) | exact HB.out)⟩
       ·rw [if_neg c99] at H
        have c99b0 : decide ((rd t179 t170) < t169) = false := decide_eq_false c99
        clear c99
        obtain ⟨y189, hy189⟩ : ∃ y_ : List Int, y_ = (t179.set (t170 : Int).toNat (wrap64 ((rd t179 t170) - t169))) := ⟨_, rfl⟩
        replace H : (some (t171, t172, t173, t174, t175, t176, a0_6, y189, t169, 0)) = some (r1, r2, r3, r4, r5, r6, r7, r8, r9, r10) := by first | (rw [hy189]; with_reducible exact H) | (have H2_ := (Option.bind_some _ _).symm.trans H; rw [hy189]; with_reducible exact H2_) | (have H2_ := (Option.bind_some _ _).symm.trans H; with_reducible exact H2_) | with_reducible exact H | (rw [hy189]; exact H) | exact H
        have Ny189 := Aside0.mk hy189
        clear hy189
        simp only [Option.some.injEq, Prod.mk.injEq] at H
        obtain ⟨rfl, rfl, rfl, rfl, rfl, rfl, rfl, rfl, rfl, rfl⟩ := H
        replace hn182_163 := NB182_163.out
        replace hn163_182 := NB163_182.out
        replace hn182_164 := NB182_164.out
        replace hn164_182 := NB164_182.out
        replace hn182_165 := NB182_165.out
        replace hn165_182 := NB165_182.out
        replace hn182_178 := NB182_178.out
        replace hn178_182 := NB178_182.out
        replace hc182 := ce8_ BK182
        have p183 : 0 ≤ (t170 : Int) := of_decide_eq_true (by first | (with_reducible assumption) | assumption)
        have q183 : t170 < (t179.length : Int) := of_decide_eq_true (by first | (with_reducible assumption) | assumption)
        obtain ⟨ad183, e183, hx183_0⟩ := Kd.at_int (Kd.R_reads' HO181.out).2.2 t170 p183 q183
        cases e183
        have hn183_0 : ad183.block ≠ gb182 := Kd.own_blk (rn_ HO181.out BK182.out)
        have hn183_1 : ad183.block ≠ gb182 := Kd.own_blk (rn_ HO181.out BK182.out)
        have hn183_2 : ad183.block ≠ gb182 := Kd.own_blk (rn_ HO181.out BK182.out)
        have hn183_3 : ad183.block ≠ gb182 := Kd.own_blk (rn_ HO181.out BK182.out)
        have hn183_4 : ad183.block ≠ gb182 := Kd.own_blk (rn_ HO181.out BK182.out)
        have hn183_5 : ad183.block ≠ gb182 := Kd.own_blk (rn_ HO181.out BK182.out)
        have hn183_6 : ad183.block ≠ gb182 := Kd.own_blk (rn_ HO181.out BK182.out)
        have hn183_7 : ad183.block ≠ gb182 := Kd.own_blk (rn_ HO181.out BK182.out)
        replace hx183_0 := (cell_far (p := ⟨gb182, 0, none⟩) (by first | (rw [add_block]; exact hn183_0) | (show (Addr.add _ _).block ≠ _; rw [add_block]; exact hn183_0) | exact hn183_0) (.int .i64 t171)).trans hx183_0
        replace hx183_0 := (cell_far (p := ⟨gb182, 1, none⟩) (by first | (rw [add_block]; exact hn183_1) | (show (Addr.add _ _).block ≠ _; rw [add_block]; exact hn183_1) | exact hn183_1) (.int .i64 t172)).trans hx183_0
        replace hx183_0 := (cell_far (p := ⟨gb182, 2, none⟩) (by first | (rw [add_block]; exact hn183_2) | (show (Addr.add _ _).block ≠ _; rw [add_block]; exact hn183_2) | exact hn183_2) (.int .i64 t173)).trans hx183_0
        replace hx183_0 := (cell_far (p := ⟨gb182, 3, none⟩) (by first | (rw [add_block]; exact hn183_3) | (show (Addr.add _ _).block ≠ _; rw [add_block]; exact hn183_3) | exact hn183_3) (.int .i64 t174)).trans hx183_0
        replace hx183_0 := (cell_far (p := ⟨gb182, 4, none⟩) (by first | (rw [add_block]; exact hn183_4) | (show (Addr.add _ _).block ≠ _; rw [add_block]; exact hn183_4) | exact hn183_4) (.int .i64 t175)).trans hx183_0
        replace hx183_0 := (cell_far (p := ⟨gb182, 5, none⟩) (by first | (rw [add_block]; exact hn183_5) | (show (Addr.add _ _).block ≠ _; rw [add_block]; exact hn183_5) | exact hn183_5) (.int .u64 t176)).trans hx183_0
        replace hx183_0 := (cell_far (p := ⟨gb182, 6, none⟩) (by first | (rw [add_block]; exact hn183_6) | (show (Addr.add _ _).block ≠ _; rw [add_block]; exact hn183_6) | exact hn183_6) (.int .i64 a0_6)).trans hx183_0
        replace hx183_0 := (cell_far (p := ⟨gb182, 7, none⟩) (by first | (rw [add_block]; exact hn183_7) | (show (Addr.add _ _).block ≠ _; rw [add_block]; exact hn183_7) | exact hn183_7) (.slice (some ad183) t179.length co67)).trans hx183_0
        clear hn183_0
        clear hn183_1
        clear hn183_2
        clear hn183_3
        clear hn183_4
        clear hn183_5
        clear hn183_6
        clear hn183_7
        replace p183 := eq_true p183
        replace q183 := eq_true q183
        try go_wp2_with (first | ((with_reducible refine gate_dst (N := 15) rfl ?_); refine bx_ #[.int .i64 0, .int .i64 0] 76 ?_; intro gb187 hg w188 BK187 hb; have GW187 := bz_ w hg; have GE187 := GW187; have NB163_187 := Aside0.mk ((by rw [hg]; exact Nat.ne_of_lt (blk_lt (g := gb163) (o := .cells #[.int .i64 a0_0, .int .i64 a0_1, .int .i64 a0_2, .int .i64 a0_3, .int .i64 a0_4, .int .u64 a0_5, .int .i64 a0_6, .slice A0_7 l0_7.length c0_7] 29 (0, 0)) (bt_ BK163)) : gb163 ≠ gb187)); have NB187_163 := Aside0.mk ((by rw [hg]; exact Nat.ne_of_gt (blk_lt (g := gb163) (o := .cells #[.int .i64 a0_0, .int .i64 a0_1, .int .i64 a0_2, .int .i64 a0_3, .int .i64 a0_4, .int .u64 a0_5, .int .i64 a0_6, .slice A0_7 l0_7.length c0_7] 29 (0, 0)) (bt_ BK163)) : gb187 ≠ gb163)); have NB164_187 := Aside0.mk ((by rw [hg]; exact Nat.ne_of_lt (blk_lt (g := gb164) (o := .cells #[.int .u8 a1_0, .int .i64 a1_1, .int .u64 a1_2, .int .i64 a1_3] 31 (0, 0)) (bt_ BK164)) : gb164 ≠ gb187)); have NB187_164 := Aside0.mk ((by rw [hg]; exact Nat.ne_of_gt (blk_lt (g := gb164) (o := .cells #[.int .u8 a1_0, .int .i64 a1_1, .int .u64 a1_2, .int .i64 a1_3] 31 (0, 0)) (bt_ BK164)) : gb187 ≠ gb164)); have NB165_187 := Aside0.mk ((by rw [hg]; exact Nat.ne_of_lt (blk_lt (g := gb165) (o := .cells #[.int .i64 0, .int .i64 0, .int .i64 0, .int .i64 0, .int .i64 0, .int .u64 0, .int .i64 0, .slice none 0 0] 29 (0, 0)) (bt_ BK165)) : gb165 ≠ gb187)); have NB187_165 := Aside0.mk ((by rw [hg]; exact Nat.ne_of_gt (blk_lt (g := gb165) (o := .cells #[.int .i64 0, .int .i64 0, .int .i64 0, .int .i64 0, .int .i64 0, .int .u64 0, .int .i64 0, .slice none 0 0] 29 (0, 0)) (bt_ BK165)) : gb187 ≠ gb165)); have NB178_187 := Aside0.mk ((by rw [hg]; exact Nat.ne_of_lt (blk_lt (g := gb178) (o := .cells #[.int .i64 t171, .int .i64 t172, .int .i64 t173, .int .i64 t174, .int .i64 t175, .int .u64 t176] 26 (0, 0)) (bt_ BK178)) : gb178 ≠ gb187)); have NB187_178 := Aside0.mk ((by rw [hg]; exact Nat.ne_of_gt (blk_lt (g := gb178) (o := .cells #[.int .i64 t171, .int .i64 t172, .int .i64 t173, .int .i64 t174, .int .i64 t175, .int .u64 t176] 26 (0, 0)) (bt_ BK178)) : gb187 ≠ gb178)); have NB182_187 := Aside0.mk ((by rw [hg]; exact Nat.ne_of_lt (blk_lt (g := gb182) (o := .cells #[.int .i64 t171, .int .i64 t172, .int .i64 t173, .int .i64 t174, .int .i64 t175, .int .u64 t176, .int .i64 a0_6, .slice (some ad183) t179.length co67] 29 (0, 0)) (bp8_ (bq_ BK182))) : gb182 ≠ gb187)); have NB187_182 := Aside0.mk ((by rw [hg]; exact Nat.ne_of_gt (blk_lt (g := gb182) (o := .cells #[.int .i64 t171, .int .i64 t172, .int .i64 t173, .int .i64 t174, .int .i64 t175, .int .u64 t176, .int .i64 a0_6, .slice (some ad183) t179.length co67] 29 (0, 0)) (bp8_ (bq_ BK182))) : gb187 ≠ gb182)); replace HO181 := Aside0.mk (Kd.R_below (by (with_reducible repeat (first | apply Kd.R_alloc | apply Kd.R_drewN | apply Kd.R_drew)); exact (Kd.R_mono (rf8_ (g := gb182) (Kd.R_types HO181.out BK182.out (by decide)) (fun _ hk => hk.2)) (fun _ h_ => h_.1))) hb); replace BK163 := bf_ BK163 hb; replace BK164 := bf_ BK164 hb; replace BK165 := bf_ BK165 hb; replace BK178 := bf_ BK178 hb; replace BK182 := Aside0.mk (blk_below (g := gb182) (o := .cells #[.int .i64 t171, .int .i64 t172, .int .i64 t173, .int .i64 t174, .int .i64 t175, .int .u64 t176, .int .i64 a0_6, .slice (some ad183) t179.length co67] 29 (0, 0)) (bp8_ (bq_ BK182)) hb); replace HB := bs_ w hb; clear hb hg; replace hn187_163 := NB187_163.out; replace hn163_187 := NB163_187.out; replace hn187_164 := NB187_164.out; replace hn164_187 := NB164_187.out; replace hn187_165 := NB187_165.out; replace hn165_187 := NB165_187.out; replace hn187_178 := NB187_178.out; replace hn178_187 := NB178_187.out; replace hn187_182 := NB187_182.out; replace hn182_187 := NB182_187.out; replace hc187 := ce2_ BK187))
        have n0_ : Aside0 (Kd.R (Kd.int .i64) 2 ((w188.setCell ⟨gb187, 0, none⟩ (.int .i64 t168)).setCell ⟨gb187, 1, none⟩ (.int .i64 t169)) w.heap.size (fun _ => True) (.slice (some ad183) t179.length co67) t179) := ⟨by (with_reducible repeat (first | apply Kd.R_alloc | apply Kd.R_drewN | apply Kd.R_drew)); exact Kd.R_mono (Kd.R_far (p := ⟨gb187, 1, none⟩) (Kd.R_far (p := ⟨gb187, 0, none⟩) (Kd.R_types HO181.out BK187.out (by decide)) (fun _ hk => hk.2) (.int .i64 t168)) (fun _ hk => hk.2) (.int .i64 t169)) (fun _ hk => trivial)⟩
        have n1_ : Aside0 (((w188.setCell ⟨gb187, 0, none⟩ (.int .i64 t168)).setCell ⟨gb187, 1, none⟩ (.int .i64 t169)).heap[gb163]? = some (.cells #[.int .i64 a0_0, .int .i64 a0_1, .int .i64 a0_2, .int .i64 a0_3, .int .i64 a0_4, .int .u64 a0_5, .int .i64 a0_6, .slice A0_7 l0_7.length c0_7] 29 (0, 0))) := ⟨(bt_ BK163)⟩
        have n2_ : Aside0 (((w188.setCell ⟨gb187, 0, none⟩ (.int .i64 t168)).setCell ⟨gb187, 1, none⟩ (.int .i64 t169)).heap[gb164]? = some (.cells #[.int .u8 a1_0, .int .i64 a1_1, .int .u64 a1_2, .int .i64 a1_3] 31 (0, 0))) := ⟨(bt_ BK164)⟩
        have n3_ : Aside0 (((w188.setCell ⟨gb187, 0, none⟩ (.int .i64 t168)).setCell ⟨gb187, 1, none⟩ (.int .i64 t169)).heap[gb165]? = some (.cells #[.int .i64 0, .int .i64 0, .int .i64 0, .int .i64 0, .int .i64 0, .int .u64 0, .int .i64 0, .slice none 0 0] 29 (0, 0))) := ⟨(bt_ BK165)⟩
        have n4_ : Aside0 (((w188.setCell ⟨gb187, 0, none⟩ (.int .i64 t168)).setCell ⟨gb187, 1, none⟩ (.int .i64 t169)).heap[gb178]? = some (.cells #[.int .i64 t171, .int .i64 t172, .int .i64 t173, .int .i64 t174, .int .i64 t175, .int .u64 t176] 26 (0, 0))) := ⟨(bt_ BK178)⟩
        have n5_ : Aside0 (((w188.setCell ⟨gb187, 0, none⟩ (.int .i64 t168)).setCell ⟨gb187, 1, none⟩ (.int .i64 t169)).heap[gb182]? = some (.cells #[.int .i64 t171, .int .i64 t172, .int .i64 t173, .int .i64 t174, .int .i64 t175, .int .u64 t176, .int .i64 a0_6, .slice (some ad183) t179.length co67] 29 (0, 0))) := ⟨(bt_ BK182)⟩
        have n6_ : Aside0 (((w188.setCell ⟨gb187, 0, none⟩ (.int .i64 t168)).setCell ⟨gb187, 1, none⟩ (.int .i64 t169)).heap[gb187]? = some (.cells #[.int .i64 t168, .int .i64 t169] 76 (0, 0))) := ⟨(bp2_ (bq_ BK187))⟩
        have n7_ : Aside0 (Below w.heap.size w ((w188.setCell ⟨gb187, 0, none⟩ (.int .i64 t168)).setCell ⟨gb187, 1, none⟩ (.int .i64 t169))) := bw_
        (try clear HO181)
        (try clear BK163)
        (try clear BK164)
        (try clear BK165)
        (try clear BK178)
        (try clear BK182)
        (try clear BK187)
        (try clear HB)
        generalize ((w188.setCell ⟨gb187, 0, none⟩ (.int .i64 t168)).setCell ⟨gb187, 1, none⟩ (.int .i64 t169)) = w195 at n0_ n1_ n2_ n3_ n4_ n5_ n6_ n7_ ⊢
        have HO181 := n0_
        have BK163 := n1_
        have BK164 := n2_
        have BK165 := n3_
        have BK178 := n4_
        have BK182 := n5_
        have BK187 := n6_
        have HB := n7_
        clear n0_ n1_ n2_ n3_ n4_ n5_ n6_ n7_
        replace HO181 := Aside0.mk (Kd.R_drew HO181.out)
        replace BK163 := Aside0.mk (blk_drew BK163.out)
        replace BK164 := Aside0.mk (blk_drew BK164.out)
        replace BK165 := Aside0.mk (blk_drew BK165.out)
        replace BK178 := Aside0.mk (blk_drew BK178.out)
        replace BK182 := Aside0.mk (blk_drew BK182.out)
        replace BK187 := Aside0.mk (blk_drew BK187.out)
        replace HB := Aside0.mk (below_drew1 HB.out)
        have p188 : 0 ≤ (t170 : Int) := of_decide_eq_true (by first | (with_reducible assumption) | assumption)
        have q188 : t170 < (t179.length : Int) := of_decide_eq_true (by first | (with_reducible assumption) | assumption)
        obtain ⟨ad188, e188, hx188_0⟩ := Kd.at_int (Kd.R_reads' HO181.out).2.2 t170 p188 q188
        obtain rfl : ad183 = ad188 := (by injection e188)
        replace p188 := eq_true p188
        replace q188 := eq_true q188
        have p148 : 0 ≤ (t170 : Int) := of_decide_eq_true (by first | (with_reducible assumption) | assumption)
        have q148 : (t170 : Int) < ((t179.length : Int) : Int) := of_decide_eq_true (by first | (with_reducible assumption) | assumption)
        obtain ⟨go148, co148, eo148, gb148, gl148, cl148, HG148⟩ := Kd.R_form HO181.out (by omega)
        (first | cases eo148 | (injection eo148 with ea_ en_ ec_; (first | subst ea_ | (injection ea_ with ea_; subst ea_)); subst ec_; clear en_))
        have GB148 := Aside0.mk gb148
        have GG148 := Aside0.mk HG148
        clear gb148 gl148 HG148
        (first | simp only [add_plain] at hx183_0 | skip)
        (first | simp only [add_plain] at hx188_0 | skip)
        obtain ⟨hx148_0, hf148_0⟩ := Kd.R_celln 0 HO181.out (t170 : Int) p148 q148
        replace p148 := eq_true p148
        replace q148 := eq_true q148
        have HP197 := Kd.R_putn HO181.out (t170 : Int) (wrap64 ((rd t179 t170) - t169))
        rw [← Ny189.out] at HP197
        have HQ197 := Aside0.mk HP197
        clear HP197
        refine start_ (n := 10) (S := fun w' => w'.cell? ⟨gb182, 0, none⟩ = some (.int .i64 t171) ∧ w'.cell? ⟨gb182, 1, none⟩ = some (.int .i64 t172) ∧ w'.cell? ⟨gb182, 2, none⟩ = some (.int .i64 t173) ∧ w'.cell? ⟨gb182, 3, none⟩ = some (.int .i64 t174) ∧ w'.cell? ⟨gb182, 4, none⟩ = some (.int .i64 t175) ∧ w'.cell? ⟨gb182, 5, none⟩ = some (.int .u64 t176) ∧ w'.cell? ⟨gb182, 6, none⟩ = some (.int .i64 a0_6) ∧ w'.cell? ⟨gb182, 7, none⟩ = some (.slice (some ⟨go148, 0, none⟩) t179.length co67) ∧ w'.cell? ⟨gb187, 0, none⟩ = some (.int .i64 t168) ∧ w'.cell? ⟨gb187, 1, none⟩ = some (.int .i64 t169) ∧ w'.cell? ⟨go148, (t170).toNat, none⟩ = some (.int .i64 (rd t179 t170))) (ds := [9]) (bl_ 10 0) (by kernel_rfl) rfl (by kernel_rfl) ⟨(blk_cell BK182.out 0).trans rfl, (blk_cell BK182.out 1).trans rfl, (blk_cell BK182.out 2).trans rfl, (blk_cell BK182.out 3).trans rfl, (blk_cell BK182.out 4).trans rfl, (blk_cell BK182.out 5).trans rfl, (blk_cell BK182.out 6).trans rfl, (blk_cell BK182.out 7).trans rfl, (blk_cell BK187.out 0).trans rfl, (blk_cell BK187.out 1).trans rfl, hx188_0⟩ (fun hHeld => ?_); refine with_tabW lease_Step.tab26 lease_Step.bits26 (fun HT_ HW_ => ?_)
        generalize w195.drew = w196 at HO181 BK163 BK164 BK165 BK178 BK182 BK187 HB GG148 HQ197 hf148_0 hx148_0 hx183_0 hx188_0 hHeld ⊢
        refine pa_ 0 (some 97) (bl_ 10 1) HT_ ?_
        refine pa_ 2 (some 99) (bl_ 10 5) HT_ ?_
        refine pa_ 5 (some 102) (bl_ 10 37) HT_ ?_
        refine ta_ 1 (some 98) (bl_ 10 39) HT_ HW_ hHeld ?_
        refine pa_ 3 (some 100) (bl_ 10 47) HT_ ?_
        refine ta_ 4 (some 101) (bl_ 10 63) HT_ HW_ hHeld ?_
        refine ta_ 6 (some 103) (bl_ 10 127) HT_ HW_ hHeld ?_
        refine pa_ 7 (some 104) (bl_ 10 255) HT_ ?_
        refine pa_ 8 (some 105) (bl_ 10 511) HT_ ?_
        refine last_ (i := 9) (N := none) (bl_ 10 1023) rfl rfl (one_of HT_.out (by kernel_rfl)) (by decide) (fun K hK => ?_)
        refine sk_ ?_
        refine hK.out _ _ ?_
        clear hK K
        refine done_ (done_of HT_.out (by kernel_rfl)) ?_
        have n0_ : Aside0 (Kd.R (Kd.int .i64) 2 (w196.setCell ⟨go148, (t170 : Int).toNat, none⟩ (.int .i64 (wrap64 ((rd t179 t170) - t169)))) w.heap.size (fun _ => True) (.slice (some ⟨go148, 0, none⟩) t179.length co67) y189) := ⟨by (with_reducible repeat (first | apply Kd.R_alloc | apply Kd.R_drewN | apply Kd.R_drew)); exact HQ197.out⟩
        have n1_ : Aside0 ((w196.setCell ⟨go148, (t170 : Int).toNat, none⟩ (.int .i64 (wrap64 ((rd t179 t170) - t169)))).heap[gb163]? = some (.cells #[.int .i64 a0_0, .int .i64 a0_1, .int .i64 a0_2, .int .i64 a0_3, .int .i64 a0_4, .int .u64 a0_5, .int .i64 a0_6, .slice A0_7 l0_7.length c0_7] 29 (0, 0))) := ⟨by (with_reducible repeat (first | refine blk_drewN ?_ _ | refine blk_drew ?_ | refine blk_alloc ?_ _)); refine blk_far ?_ (by have h_ := Kd.R_ne HO181.out BK163.out (by decide); intro e_; exact h_ (by rw [e_]; rfl)) _; (with_reducible repeat (first | refine blk_drewN ?_ _ | refine blk_drew ?_ | refine blk_alloc ?_ _)); exact BK163.out⟩
        have n2_ : Aside0 ((w196.setCell ⟨go148, (t170 : Int).toNat, none⟩ (.int .i64 (wrap64 ((rd t179 t170) - t169)))).heap[gb164]? = some (.cells #[.int .u8 a1_0, .int .i64 a1_1, .int .u64 a1_2, .int .i64 a1_3] 31 (0, 0))) := ⟨by (with_reducible repeat (first | refine blk_drewN ?_ _ | refine blk_drew ?_ | refine blk_alloc ?_ _)); refine blk_far ?_ (by have h_ := Kd.R_ne HO181.out BK164.out (by decide); intro e_; exact h_ (by rw [e_]; rfl)) _; (with_reducible repeat (first | refine blk_drewN ?_ _ | refine blk_drew ?_ | refine blk_alloc ?_ _)); exact BK164.out⟩
        have n3_ : Aside0 ((w196.setCell ⟨go148, (t170 : Int).toNat, none⟩ (.int .i64 (wrap64 ((rd t179 t170) - t169)))).heap[gb165]? = some (.cells #[.int .i64 0, .int .i64 0, .int .i64 0, .int .i64 0, .int .i64 0, .int .u64 0, .int .i64 0, .slice none 0 0] 29 (0, 0))) := ⟨by (with_reducible repeat (first | refine blk_drewN ?_ _ | refine blk_drew ?_ | refine blk_alloc ?_ _)); refine blk_far ?_ (by have h_ := Kd.R_ne HO181.out BK165.out (by decide); intro e_; exact h_ (by rw [e_]; rfl)) _; (with_reducible repeat (first | refine blk_drewN ?_ _ | refine blk_drew ?_ | refine blk_alloc ?_ _)); exact BK165.out⟩
        have n4_ : Aside0 ((w196.setCell ⟨go148, (t170 : Int).toNat, none⟩ (.int .i64 (wrap64 ((rd t179 t170) - t169)))).heap[gb178]? = some (.cells #[.int .i64 t171, .int .i64 t172, .int .i64 t173, .int .i64 t174, .int .i64 t175, .int .u64 t176] 26 (0, 0))) := ⟨by (with_reducible repeat (first | refine blk_drewN ?_ _ | refine blk_drew ?_ | refine blk_alloc ?_ _)); refine blk_far ?_ (by have h_ := Kd.R_ne HO181.out BK178.out (by decide); intro e_; exact h_ (by rw [e_]; rfl)) _; (with_reducible repeat (first | refine blk_drewN ?_ _ | refine blk_drew ?_ | refine blk_alloc ?_ _)); exact BK178.out⟩
        have n5_ : Aside0 ((w196.setCell ⟨go148, (t170 : Int).toNat, none⟩ (.int .i64 (wrap64 ((rd t179 t170) - t169)))).heap[gb182]? = some (.cells #[.int .i64 t171, .int .i64 t172, .int .i64 t173, .int .i64 t174, .int .i64 t175, .int .u64 t176, .int .i64 a0_6, .slice (some ⟨go148, 0, none⟩) t179.length co67] 29 (0, 0))) := ⟨by (with_reducible repeat (first | refine blk_drewN ?_ _ | refine blk_drew ?_ | refine blk_alloc ?_ _)); refine blk_far ?_ (by have h_ := Kd.R_ne HO181.out BK182.out (by decide); intro e_; exact h_ (by rw [e_]; rfl)) _; (with_reducible repeat (first | refine blk_drewN ?_ _ | refine blk_drew ?_ | refine blk_alloc ?_ _)); exact BK182.out⟩
        have n6_ : Aside0 ((w196.setCell ⟨go148, (t170 : Int).toNat, none⟩ (.int .i64 (wrap64 ((rd t179 t170) - t169)))).heap[gb187]? = some (.cells #[.int .i64 t168, .int .i64 t169] 76 (0, 0))) := ⟨by (with_reducible repeat (first | refine blk_drewN ?_ _ | refine blk_drew ?_ | refine blk_alloc ?_ _)); refine blk_far ?_ (by have h_ := Kd.R_ne HO181.out BK187.out (by decide); intro e_; exact h_ (by rw [e_]; rfl)) _; (with_reducible repeat (first | refine blk_drewN ?_ _ | refine blk_drew ?_ | refine blk_alloc ?_ _)); exact BK187.out⟩
        have n7_ : Aside0 (Below w.heap.size w (w196.setCell ⟨go148, (t170 : Int).toNat, none⟩ (.int .i64 (wrap64 ((rd t179 t170) - t169))))) := ⟨by repeat (first | (with_reducible first | exact HB.out | apply below_alloc | apply pw_below_drewN | apply below_drew1 | refine below_set ?_ GB148.out | refine below_set ?_ GE163.out | refine below_set ?_ GE164.out | refine below_set ?_ GE165.out | refine below_set ?_ GE178.out | refine below_set ?_ GE182.out | refine below_set ?_ GE187.out) | exact HB.out)⟩
        (try clear HO181)
        (try clear BK163)
        (try clear BK164)
        (try clear BK165)
        (try clear BK178)
        (try clear BK182)
        (try clear BK187)
        (try clear HB)
        generalize (w196.setCell ⟨go148, (t170 : Int).toNat, none⟩ (.int .i64 (wrap64 ((rd t179 t170) - t169)))) = w198 at n0_ n1_ n2_ n3_ n4_ n5_ n6_ n7_ ⊢
        have HO181 := n0_
        have BK163 := n1_
        have BK164 := n2_
        have BK165 := n3_
        have BK178 := n4_
        have BK182 := n5_
        have BK187 := n6_
        have HB := n7_
        clear n0_ n1_ n2_ n3_ n4_ n5_ n6_ n7_
        replace hc182 := ce8_ BK182
        replace hc165 := ce8_ BK165
        try go_wp2
        refine bodyPost_ret (results_ctt rfl _ _ gb165 29 #[.int .i64 t171, .int .i64 t172, .int .i64 t173, .int .i64 t174, .int .i64 t175, .int .u64 t176, .int .i64 a0_6, .slice (some ⟨go148, 0, none⟩) t179.length co67] (0, 0) _ rfl (bp8_ (bq_ BK165)) Try.underlying29 rfl (by kernel_rfl)) rfl ?_
        exact ⟨_, by first | rfl | (simp [errW_none, errW_some] <;> rfl) | (simp [*, errW_none, errW_some] <;> rfl), by (with_reducible repeat (first | apply Kd.R_alloc | apply Kd.R_drewN | apply Kd.R_drew)); exact Kd.R_mono (rf8_ (g := gb165) (Kd.R_types HO181.out BK165.out (by decide)) (fun _ hk => hk.2)) (fun _ hk => trivial), by repeat (first | (with_reducible first | exact HB.out | apply below_alloc | apply pw_below_drewN | apply below_drew1 | refine below_set ?_ GE163.out | refine below_set ?_ GE164.out | refine below_set ?_ GE165.out | refine below_set ?_ GE178.out | refine below_set ?_ GE182.out | refine below_set ?_ GE187.out) | exact HB.out)⟩
      ·rw [if_neg c98] at H
       have c98b0 : (t167 == 2) = false := beq_eq_false_iff_ne.mpr c98
       have c98b1 : (t167 != 2) = true := bne_iff_ne.mpr c98
       by_cases c201 : t167 = 3
       ·rw [if_pos c201] at H
        have c201b0 : (t167 == 3) = true := beq_iff_eq.mpr c201
        have c201b1 : (t167 != 3) = false := bne_eq_false_iff_eq.mpr c201
        clear c201
        obtain ⟨y191, hy191⟩ : ∃ y_ : List Int, y_ = (t179.set (t170 : Int).toNat 0) := ⟨_, rfl⟩
        replace H : (if (mn t171 (wrap64 (t174 + (rd t179 t170)))) = t171 then (some (t171, t172, t173, mn t171 (wrap64 (t174 + (rd t179 t170))), 0, t176, a0_6, y191, rd t179 t170, 0)) else (some (t171, t172, t173, mn t171 (wrap64 (t174 + (rd t179 t170))), t175, t176, a0_6, y191, rd t179 t170, 0))) = some (r1, r2, r3, r4, r5, r6, r7, r8, r9, r10) := by first | (rw [hy191]; with_reducible exact H) | (have H2_ := (Option.bind_some _ _).symm.trans H; rw [hy191]; with_reducible exact H2_) | (have H2_ := (Option.bind_some _ _).symm.trans H; with_reducible exact H2_) | with_reducible exact H | (rw [hy191]; exact H) | exact H
        have Ny191 := Aside0.mk hy191
        clear hy191
        obtain ⟨ji203, hji203⟩ : ∃ j_ : Int, (mn t171 (wrap64 (t174 + (rd t179 t170)))) = j_ := ⟨_, rfl⟩
        replace H : (if (ji203) = t171 then (some (t171, t172, t173, ji203, 0, t176, a0_6, y191, rd t179 t170, 0)) else (some (t171, t172, t173, ji203, t175, t176, a0_6, y191, rd t179 t170, 0))) = some (r1, r2, r3, r4, r5, r6, r7, r8, r9, r10) := by first | (rw [hji203] at H; exact H) | (simp only [hji203] at H ⊢; exact H)
        (try rw [hji203] at A3)
        (try rw [hji203] at A5)
        (try rw [hji203] at A18)
        (try rw [hji203] at A33)
        (try rw [hji203] at A35)
        have hji203_ : (if (wrap64 (t174 + (rd t179 t170))) < t171 then (wrap64 (t174 + (rd t179 t170))) else t171) = ji203 := hji203
        by_cases c204 : (ji203) = t171
        ·rw [if_pos c204] at H
         have c204b0 : ((ji203) == t171) = true := beq_iff_eq.mpr c204
         have c204b1 : ((ji203) != t171) = false := bne_eq_false_iff_eq.mpr c204
         clear c204
         simp only [Option.some.injEq, Prod.mk.injEq] at H
         obtain ⟨rfl, rfl, rfl, rfl, rfl, rfl, rfl, rfl, rfl, rfl⟩ := H
         replace hn182_163 := NB182_163.out
         replace hn163_182 := NB163_182.out
         replace hn182_164 := NB182_164.out
         replace hn164_182 := NB164_182.out
         replace hn182_165 := NB182_165.out
         replace hn165_182 := NB165_182.out
         replace hn182_178 := NB182_178.out
         replace hn178_182 := NB178_182.out
         replace hc182 := ce8_ BK182
         have p183 : 0 ≤ (t170 : Int) := of_decide_eq_true (by first | (with_reducible assumption) | assumption)
         have q183 : t170 < (t179.length : Int) := of_decide_eq_true (by first | (with_reducible assumption) | assumption)
         obtain ⟨ad183, e183, hx183_0⟩ := Kd.at_int (Kd.R_reads' HO181.out).2.2 t170 p183 q183
         cases e183
         have hn183_0 : ad183.block ≠ gb182 := Kd.own_blk (rn_ HO181.out BK182.out)
         have hn183_1 : ad183.block ≠ gb182 := Kd.own_blk (rn_ HO181.out BK182.out)
         have hn183_2 : ad183.block ≠ gb182 := Kd.own_blk (rn_ HO181.out BK182.out)
         have hn183_3 : ad183.block ≠ gb182 := Kd.own_blk (rn_ HO181.out BK182.out)
         have hn183_4 : ad183.block ≠ gb182 := Kd.own_blk (rn_ HO181.out BK182.out)
         have hn183_5 : ad183.block ≠ gb182 := Kd.own_blk (rn_ HO181.out BK182.out)
         have hn183_6 : ad183.block ≠ gb182 := Kd.own_blk (rn_ HO181.out BK182.out)
         have hn183_7 : ad183.block ≠ gb182 := Kd.own_blk (rn_ HO181.out BK182.out)
         replace hx183_0 := (cell_far (p := ⟨gb182, 0, none⟩) (by first | (rw [add_block]; exact hn183_0) | (show (Addr.add _ _).block ≠ _; rw [add_block]; exact hn183_0) | exact hn183_0) (.int .i64 t171)).trans hx183_0
         replace hx183_0 := (cell_far (p := ⟨gb182, 1, none⟩) (by first | (rw [add_block]; exact hn183_1) | (show (Addr.add _ _).block ≠ _; rw [add_block]; exact hn183_1) | exact hn183_1) (.int .i64 t172)).trans hx183_0
         replace hx183_0 := (cell_far (p := ⟨gb182, 2, none⟩) (by first | (rw [add_block]; exact hn183_2) | (show (Addr.add _ _).block ≠ _; rw [add_block]; exact hn183_2) | exact hn183_2) (.int .i64 t173)).trans hx183_0
         replace hx183_0 := (cell_far (p := ⟨gb182, 3, none⟩) (by first | (rw [add_block]; exact hn183_3) | (show (Addr.add _ _).block ≠ _; rw [add_block]; exact hn183_3) | exact hn183_3) (.int .i64 t174)).trans hx183_0
         replace hx183_0 := (cell_far (p := ⟨gb182, 4, none⟩) (by first | (rw [add_block]; exact hn183_4) | (show (Addr.add _ _).block ≠ _; rw [add_block]; exact hn183_4) | exact hn183_4) (.int .i64 t175)).trans hx183_0
         replace hx183_0 := (cell_far (p := ⟨gb182, 5, none⟩) (by first | (rw [add_block]; exact hn183_5) | (show (Addr.add _ _).block ≠ _; rw [add_block]; exact hn183_5) | exact hn183_5) (.int .u64 t176)).trans hx183_0
         replace hx183_0 := (cell_far (p := ⟨gb182, 6, none⟩) (by first | (rw [add_block]; exact hn183_6) | (show (Addr.add _ _).block ≠ _; rw [add_block]; exact hn183_6) | exact hn183_6) (.int .i64 a0_6)).trans hx183_0
         replace hx183_0 := (cell_far (p := ⟨gb182, 7, none⟩) (by first | (rw [add_block]; exact hn183_7) | (show (Addr.add _ _).block ≠ _; rw [add_block]; exact hn183_7) | exact hn183_7) (.slice (some ad183) t179.length co67)).trans hx183_0
         clear hn183_0
         clear hn183_1
         clear hn183_2
         clear hn183_3
         clear hn183_4
         clear hn183_5
         clear hn183_6
         clear hn183_7
         replace p183 := eq_true p183
         replace q183 := eq_true q183
         try go_wp2_with (first | ((with_reducible refine gate_dst (N := 16) rfl ?_); refine bx_ #[.int .i64 0] 77 ?_; intro gb190 hg w244 BK190 hb; have GW190 := bz_ w hg; have GE190 := GW190; have NB163_190 := Aside0.mk ((by rw [hg]; exact Nat.ne_of_lt (blk_lt (g := gb163) (o := .cells #[.int .i64 a0_0, .int .i64 a0_1, .int .i64 a0_2, .int .i64 a0_3, .int .i64 a0_4, .int .u64 a0_5, .int .i64 a0_6, .slice A0_7 l0_7.length c0_7] 29 (0, 0)) (bt_ BK163)) : gb163 ≠ gb190)); have NB190_163 := Aside0.mk ((by rw [hg]; exact Nat.ne_of_gt (blk_lt (g := gb163) (o := .cells #[.int .i64 a0_0, .int .i64 a0_1, .int .i64 a0_2, .int .i64 a0_3, .int .i64 a0_4, .int .u64 a0_5, .int .i64 a0_6, .slice A0_7 l0_7.length c0_7] 29 (0, 0)) (bt_ BK163)) : gb190 ≠ gb163)); have NB164_190 := Aside0.mk ((by rw [hg]; exact Nat.ne_of_lt (blk_lt (g := gb164) (o := .cells #[.int .u8 a1_0, .int .i64 a1_1, .int .u64 a1_2, .int .i64 a1_3] 31 (0, 0)) (bt_ BK164)) : gb164 ≠ gb190)); have NB190_164 := Aside0.mk ((by rw [hg]; exact Nat.ne_of_gt (blk_lt (g := gb164) (o := .cells #[.int .u8 a1_0, .int .i64 a1_1, .int .u64 a1_2, .int .i64 a1_3] 31 (0, 0)) (bt_ BK164)) : gb190 ≠ gb164)); have NB165_190 := Aside0.mk ((by rw [hg]; exact Nat.ne_of_lt (blk_lt (g := gb165) (o := .cells #[.int .i64 0, .int .i64 0, .int .i64 0, .int .i64 0, .int .i64 0, .int .u64 0, .int .i64 0, .slice none 0 0] 29 (0, 0)) (bt_ BK165)) : gb165 ≠ gb190)); have NB190_165 := Aside0.mk ((by rw [hg]; exact Nat.ne_of_gt (blk_lt (g := gb165) (o := .cells #[.int .i64 0, .int .i64 0, .int .i64 0, .int .i64 0, .int .i64 0, .int .u64 0, .int .i64 0, .slice none 0 0] 29 (0, 0)) (bt_ BK165)) : gb190 ≠ gb165)); have NB178_190 := Aside0.mk ((by rw [hg]; exact Nat.ne_of_lt (blk_lt (g := gb178) (o := .cells #[.int .i64 t171, .int .i64 t172, .int .i64 t173, .int .i64 t174, .int .i64 t175, .int .u64 t176] 26 (0, 0)) (bt_ BK178)) : gb178 ≠ gb190)); have NB190_178 := Aside0.mk ((by rw [hg]; exact Nat.ne_of_gt (blk_lt (g := gb178) (o := .cells #[.int .i64 t171, .int .i64 t172, .int .i64 t173, .int .i64 t174, .int .i64 t175, .int .u64 t176] 26 (0, 0)) (bt_ BK178)) : gb190 ≠ gb178)); have NB182_190 := Aside0.mk ((by rw [hg]; exact Nat.ne_of_lt (blk_lt (g := gb182) (o := .cells #[.int .i64 t171, .int .i64 t172, .int .i64 t173, .int .i64 t174, .int .i64 t175, .int .u64 t176, .int .i64 a0_6, .slice (some ad183) t179.length co67] 29 (0, 0)) (bp8_ (bq_ BK182))) : gb182 ≠ gb190)); have NB190_182 := Aside0.mk ((by rw [hg]; exact Nat.ne_of_gt (blk_lt (g := gb182) (o := .cells #[.int .i64 t171, .int .i64 t172, .int .i64 t173, .int .i64 t174, .int .i64 t175, .int .u64 t176, .int .i64 a0_6, .slice (some ad183) t179.length co67] 29 (0, 0)) (bp8_ (bq_ BK182))) : gb190 ≠ gb182)); replace HO181 := Aside0.mk (Kd.R_below (by (with_reducible repeat (first | apply Kd.R_alloc | apply Kd.R_drewN | apply Kd.R_drew)); exact (Kd.R_mono (rf8_ (g := gb182) (Kd.R_types HO181.out BK182.out (by decide)) (fun _ hk => hk.2)) (fun _ h_ => h_.1))) hb); replace BK163 := bf_ BK163 hb; replace BK164 := bf_ BK164 hb; replace BK165 := bf_ BK165 hb; replace BK178 := bf_ BK178 hb; replace BK182 := Aside0.mk (blk_below (g := gb182) (o := .cells #[.int .i64 t171, .int .i64 t172, .int .i64 t173, .int .i64 t174, .int .i64 t175, .int .u64 t176, .int .i64 a0_6, .slice (some ad183) t179.length co67] 29 (0, 0)) (bp8_ (bq_ BK182)) hb); replace HB := bs_ w hb; clear hb hg; replace hn190_163 := NB190_163.out; replace hn163_190 := NB163_190.out; replace hn190_164 := NB190_164.out; replace hn164_190 := NB164_190.out; replace hn190_165 := NB190_165.out; replace hn165_190 := NB165_190.out; replace hn190_178 := NB190_178.out; replace hn178_190 := NB178_190.out; replace hn190_182 := NB190_182.out; replace hn182_190 := NB182_190.out; replace hc190 := ce1_ BK190) | ((with_reducible refine gate_store (t := 77) (p := 16) rfl ?_); refine store_event (t := 77) (p := 16) (v := ?vo_w251) (w1 := (w244.setCell ⟨gb190, 0, none⟩ (.int .i64 t168))) ?hg ?ho ?hn ?hr ?_; (case ho => rfl); (case hg => rfl); (case hn => rfl); (case hr => first | (go_simp; done) | (go_simp; rfl)); intro w251 hw; replace HO181 : Aside0 (Kd.R (Kd.int .i64) 2 w251 w.heap.size (fun _ => True) (.slice (some ad183) t179.length co67) t179) := ⟨(by rw [hw]; exact (by (with_reducible repeat (first | apply Kd.R_alloc | apply Kd.R_drewN | apply Kd.R_drew)); exact Kd.R_mono (Kd.R_far (p := ⟨gb190, 0, none⟩) (Kd.R_types HO181.out BK190.out (by decide)) (fun _ hk => hk.2) (.int .i64 t168)) (fun _ hk => trivial)))⟩; replace BK163 : Aside0 (w251.heap[gb163]? = some (.cells #[.int .i64 a0_0, .int .i64 a0_1, .int .i64 a0_2, .int .i64 a0_3, .int .i64 a0_4, .int .u64 a0_5, .int .i64 a0_6, .slice A0_7 l0_7.length c0_7] 29 (0, 0))) := ⟨(by rw [hw]; exact (bt_ BK163))⟩; replace BK164 : Aside0 (w251.heap[gb164]? = some (.cells #[.int .u8 a1_0, .int .i64 a1_1, .int .u64 a1_2, .int .i64 a1_3] 31 (0, 0))) := ⟨(by rw [hw]; exact (bt_ BK164))⟩; replace BK165 : Aside0 (w251.heap[gb165]? = some (.cells #[.int .i64 0, .int .i64 0, .int .i64 0, .int .i64 0, .int .i64 0, .int .u64 0, .int .i64 0, .slice none 0 0] 29 (0, 0))) := ⟨(by rw [hw]; exact (bt_ BK165))⟩; replace BK178 : Aside0 (w251.heap[gb178]? = some (.cells #[.int .i64 t171, .int .i64 t172, .int .i64 t173, .int .i64 t174, .int .i64 t175, .int .u64 t176] 26 (0, 0))) := ⟨(by rw [hw]; exact (bt_ BK178))⟩; replace BK182 : Aside0 (w251.heap[gb182]? = some (.cells #[.int .i64 t171, .int .i64 t172, .int .i64 t173, .int .i64 t174, .int .i64 t175, .int .u64 t176, .int .i64 a0_6, .slice (some ad183) t179.length co67] 29 (0, 0))) := ⟨(by rw [hw]; exact (bt_ BK182))⟩; replace BK190 : Aside0 (w251.heap[gb190]? = some (.cells #[.int .i64 t168] 77 (0, 0))) := ⟨(by rw [hw]; exact (bp1_ (bq_ BK190)))⟩; replace HB : Aside0 (Below w.heap.size w w251) := ⟨(by rw [hw]; exact bh_)⟩; clear hw; replace hc182 := ce8_ BK182; have p202 : 0 ≤ (t170 : Int) := of_decide_eq_true (by first | (with_reducible assumption) | assumption); have q202 : (t170 : Int) < ((t179.length : Int) : Int) := of_decide_eq_true (by first | (with_reducible assumption) | assumption); obtain ⟨go202, co202, eo202, gb202, gl202, cl202, HG202⟩ := Kd.R_form HO181.out (by omega); (first | cases eo202 | (injection eo202 with ea_ en_ ec_; (first | subst ea_ | (injection ea_ with ea_; subst ea_)); subst ec_; clear en_)); have GB202 := Aside0.mk gb202; have GG202 := Aside0.mk HG202; clear gb202 gl202 HG202; (first | simp only [add_plain] at hx183_0 | skip); obtain ⟨hx202_0, hf202_0⟩ := Kd.R_celln 0 HO181.out (t170 : Int) p202 q202; replace p202 := eq_true p202; replace q202 := eq_true q202; obtain ⟨hy253_, hz253_⟩ := Kd.R_celln 0 HO181.out (t170 : Int) (of_decide_eq_true (by first | (with_reducible assumption) | assumption)) (of_decide_eq_true (by first | (with_reducible assumption) | assumption)); have HP253 := Kd.R_putg HO181.out (t170 : Int) 0) | ((with_reducible refine gate_store (t := 2) (p := 112) rfl ?_); refine store_event (t := 2) (p := 112) (v := ?vo_w254) (w1 := (w251.setCell ⟨go202, (t170 : Int).toNat, none⟩ (.int .i64 0))) ?hg ?ho ?hn ?hr ?_; (case ho => rfl); (case hg => rfl); (case hn => rfl); (case hr => first | (go_simp; done) | (go_simp; rfl)); intro w254 hw; have hg : w251.grownBy w254 (some go202) := (by rw [hw]; exact HP253.2); have hp_ : Kd.R (Kd.int .i64) 2 w254 w.heap.size (fun _ => True) (.slice (some ⟨go202, 0, none⟩) t179.length co67) y191 := (by rw [hw, Ny191.out]; exact HP253.1); clear HP253; replace BK163 := Aside0.mk (blk_grown (g := gb163) (o := .cells #[.int .i64 a0_0, .int .i64 a0_1, .int .i64 a0_2, .int .i64 a0_3, .int .i64 a0_4, .int .u64 a0_5, .int .i64 a0_6, .slice A0_7 l0_7.length c0_7] 29 (0, 0)) (bq_ BK163) hg (Kd.R_ne HO181.out BK163.out (by decide))); replace BK164 := Aside0.mk (blk_grown (g := gb164) (o := .cells #[.int .u8 a1_0, .int .i64 a1_1, .int .u64 a1_2, .int .i64 a1_3] 31 (0, 0)) (bq_ BK164) hg (Kd.R_ne HO181.out BK164.out (by decide))); replace BK165 := Aside0.mk (blk_grown (g := gb165) (o := .cells #[.int .i64 0, .int .i64 0, .int .i64 0, .int .i64 0, .int .i64 0, .int .u64 0, .int .i64 0, .slice none 0 0] 29 (0, 0)) (bq_ BK165) hg (Kd.R_ne HO181.out BK165.out (by decide))); replace BK178 := Aside0.mk (blk_grown (g := gb178) (o := .cells #[.int .i64 t171, .int .i64 t172, .int .i64 t173, .int .i64 t174, .int .i64 t175, .int .u64 t176] 26 (0, 0)) (bq_ BK178) hg (Kd.R_ne HO181.out BK178.out (by decide))); replace BK182 := Aside0.mk (blk_grown (g := gb182) (o := .cells #[.int .i64 t171, .int .i64 t172, .int .i64 t173, .int .i64 t174, .int .i64 t175, .int .u64 t176, .int .i64 a0_6, .slice (some ⟨go202, 0, none⟩) t179.length co67] 29 (0, 0)) (bq_ BK182) hg (Kd.R_ne HO181.out BK182.out (by decide))); replace BK190 := Aside0.mk (blk_grown (g := gb190) (o := .cells #[.int .i64 t168] 77 (0, 0)) (bq_ BK190) hg (Kd.R_ne HO181.out BK190.out (by decide))); replace HO181 := Aside0.mk (hp_); replace HB := Aside0.mk ((by rw [hw]; exact below_set (HB.out) GB202.out : Below w.heap.size w w254)); clear hg hw hp_; replace hc178 := ce6_ BK178; replace hc182 := ce8_ BK182; replace hc165 := ce8_ BK165))
         refine bodyPost_ret (results_ctt rfl _ _ gb165 29 #[.int .i64 t171, .int .i64 t172, .int .i64 t173, .int .i64 ji203, .int .i64 0, .int .u64 t176, .int .i64 a0_6, .slice (some ⟨go202, 0, none⟩) t179.length co67] (0, 0) _ rfl (bp8_ (bt_ BK165)) Try.underlying29 rfl (by kernel_rfl)) rfl ?_
         exact ⟨_, by first | rfl | (simp [errW_none, errW_some] <;> rfl) | (simp only [← hji203]; first | rfl | (simp [errW_none, errW_some] <;> rfl)) | (simp [*, errW_none, errW_some] <;> rfl), by (with_reducible repeat (first | apply Kd.R_alloc | apply Kd.R_drewN | apply Kd.R_drew)); exact Kd.R_mono (rf8_ (g := gb165) (Kd.R_far (p := ⟨gb182, 4, none⟩) (Kd.R_far (p := ⟨gb182, 3, none⟩) (Kd.R_types (Kd.R_types HO181.out BK182.out (by decide)) BK165.out (by decide)) (fun _ hk => hk.1.2) (.int .i64 ji203)) (fun _ hk => hk.1.2) (.int .i64 0)) (fun _ hk => hk.2)) (fun _ hk => trivial), by repeat (first | (with_reducible first | exact HB.out | apply below_alloc | apply pw_below_drewN | apply below_drew1 | refine below_set ?_ GE163.out | refine below_set ?_ GE164.out | refine below_set ?_ GE165.out | refine below_set ?_ GE178.out | refine below_set ?_ GE182.out | refine below_set ?_ GE190.out) | exact HB.out)⟩
        ·rw [if_neg c204] at H
         have c204b0 : ((ji203) == t171) = false := beq_eq_false_iff_ne.mpr c204
         have c204b1 : ((ji203) != t171) = true := bne_iff_ne.mpr c204
         clear c204
         simp only [Option.some.injEq, Prod.mk.injEq] at H
         obtain ⟨rfl, rfl, rfl, rfl, rfl, rfl, rfl, rfl, rfl, rfl⟩ := H
         replace hn182_163 := NB182_163.out
         replace hn163_182 := NB163_182.out
         replace hn182_164 := NB182_164.out
         replace hn164_182 := NB164_182.out
         replace hn182_165 := NB182_165.out
         replace hn165_182 := NB165_182.out
         replace hn182_178 := NB182_178.out
         replace hn178_182 := NB178_182.out
         replace hc182 := ce8_ BK182
         have p183 : 0 ≤ (t170 : Int) := of_decide_eq_true (by first | (with_reducible assumption) | assumption)
         have q183 : t170 < (t179.length : Int) := of_decide_eq_true (by first | (with_reducible assumption) | assumption)
         obtain ⟨ad183, e183, hx183_0⟩ := Kd.at_int (Kd.R_reads' HO181.out).2.2 t170 p183 q183
         cases e183
         have hn183_0 : ad183.block ≠ gb182 := Kd.own_blk (rn_ HO181.out BK182.out)
         have hn183_1 : ad183.block ≠ gb182 := Kd.own_blk (rn_ HO181.out BK182.out)
         have hn183_2 : ad183.block ≠ gb182 := Kd.own_blk (rn_ HO181.out BK182.out)
         have hn183_3 : ad183.block ≠ gb182 := Kd.own_blk (rn_ HO181.out BK182.out)
         have hn183_4 : ad183.block ≠ gb182 := Kd.own_blk (rn_ HO181.out BK182.out)
         have hn183_5 : ad183.block ≠ gb182 := Kd.own_blk (rn_ HO181.out BK182.out)
         have hn183_6 : ad183.block ≠ gb182 := Kd.own_blk (rn_ HO181.out BK182.out)
         have hn183_7 : ad183.block ≠ gb182 := Kd.own_blk (rn_ HO181.out BK182.out)
         replace hx183_0 := (cell_far (p := ⟨gb182, 0, none⟩) (by first | (rw [add_block]; exact hn183_0) | (show (Addr.add _ _).block ≠ _; rw [add_block]; exact hn183_0) | exact hn183_0) (.int .i64 t171)).trans hx183_0
         replace hx183_0 := (cell_far (p := ⟨gb182, 1, none⟩) (by first | (rw [add_block]; exact hn183_1) | (show (Addr.add _ _).block ≠ _; rw [add_block]; exact hn183_1) | exact hn183_1) (.int .i64 t172)).trans hx183_0
         replace hx183_0 := (cell_far (p := ⟨gb182, 2, none⟩) (by first | (rw [add_block]; exact hn183_2) | (show (Addr.add _ _).block ≠ _; rw [add_block]; exact hn183_2) | exact hn183_2) (.int .i64 t173)).trans hx183_0
         replace hx183_0 := (cell_far (p := ⟨gb182, 3, none⟩) (by first | (rw [add_block]; exact hn183_3) | (show (Addr.add _ _).block ≠ _; rw [add_block]; exact hn183_3) | exact hn183_3) (.int .i64 t174)).trans hx183_0
         replace hx183_0 := (cell_far (p := ⟨gb182, 4, none⟩) (by first | (rw [add_block]; exact hn183_4) | (show (Addr.add _ _).block ≠ _; rw [add_block]; exact hn183_4) | exact hn183_4) (.int .i64 t175)).trans hx183_0
         replace hx183_0 := (cell_far (p := ⟨gb182, 5, none⟩) (by first | (rw [add_block]; exact hn183_5) | (show (Addr.add _ _).block ≠ _; rw [add_block]; exact hn183_5) | exact hn183_5) (.int .u64 t176)).trans hx183_0
         replace hx183_0 := (cell_far (p := ⟨gb182, 6, none⟩) (by first | (rw [add_block]; exact hn183_6) | (show (Addr.add _ _).block ≠ _; rw [add_block]; exact hn183_6) | exact hn183_6) (.int .i64 a0_6)).trans hx183_0
         replace hx183_0 := (cell_far (p := ⟨gb182, 7, none⟩) (by first | (rw [add_block]; exact hn183_7) | (show (Addr.add _ _).block ≠ _; rw [add_block]; exact hn183_7) | exact hn183_7) (.slice (some ad183) t179.length co67)).trans hx183_0
         clear hn183_0
         clear hn183_1
         clear hn183_2
         clear hn183_3
         clear hn183_4
         clear hn183_5
         clear hn183_6
         clear hn183_7
         replace p183 := eq_true p183
         replace q183 := eq_true q183
         try go_wp2_with (first | ((with_reducible refine gate_dst (N := 16) rfl ?_); refine bx_ #[.int .i64 0] 77 ?_; intro gb190 hg w297 BK190 hb; have GW190 := bz_ w hg; have GE190 := GW190; have NB163_190 := Aside0.mk ((by rw [hg]; exact Nat.ne_of_lt (blk_lt (g := gb163) (o := .cells #[.int .i64 a0_0, .int .i64 a0_1, .int .i64 a0_2, .int .i64 a0_3, .int .i64 a0_4, .int .u64 a0_5, .int .i64 a0_6, .slice A0_7 l0_7.length c0_7] 29 (0, 0)) (bt_ BK163)) : gb163 ≠ gb190)); have NB190_163 := Aside0.mk ((by rw [hg]; exact Nat.ne_of_gt (blk_lt (g := gb163) (o := .cells #[.int .i64 a0_0, .int .i64 a0_1, .int .i64 a0_2, .int .i64 a0_3, .int .i64 a0_4, .int .u64 a0_5, .int .i64 a0_6, .slice A0_7 l0_7.length c0_7] 29 (0, 0)) (bt_ BK163)) : gb190 ≠ gb163)); have NB164_190 := Aside0.mk ((by rw [hg]; exact Nat.ne_of_lt (blk_lt (g := gb164) (o := .cells #[.int .u8 a1_0, .int .i64 a1_1, .int .u64 a1_2, .int .i64 a1_3] 31 (0, 0)) (bt_ BK164)) : gb164 ≠ gb190)); have NB190_164 := Aside0.mk ((by rw [hg]; exact Nat.ne_of_gt (blk_lt (g := gb164) (o := .cells #[.int .u8 a1_0, .int .i64 a1_1, .int .u64 a1_2, .int .i64 a1_3] 31 (0, 0)) (bt_ BK164)) : gb190 ≠ gb164)); have NB165_190 := Aside0.mk ((by rw [hg]; exact Nat.ne_of_lt (blk_lt (g := gb165) (o := .cells #[.int .i64 0, .int .i64 0, .int .i64 0, .int .i64 0, .int .i64 0, .int .u64 0, .int .i64 0, .slice none 0 0] 29 (0, 0)) (bt_ BK165)) : gb165 ≠ gb190)); have NB190_165 := Aside0.mk ((by rw [hg]; exact Nat.ne_of_gt (blk_lt (g := gb165) (o := .cells #[.int .i64 0, .int .i64 0, .int .i64 0, .int .i64 0, .int .i64 0, .int .u64 0, .int .i64 0, .slice none 0 0] 29 (0, 0)) (bt_ BK165)) : gb190 ≠ gb165)); have NB178_190 := Aside0.mk ((by rw [hg]; exact Nat.ne_of_lt (blk_lt (g := gb178) (o := .cells #[.int .i64 t171, .int .i64 t172, .int .i64 t173, .int .i64 t174, .int .i64 t175, .int .u64 t176] 26 (0, 0)) (bt_ BK178)) : gb178 ≠ gb190)); have NB190_178 := Aside0.mk ((by rw [hg]; exact Nat.ne_of_gt (blk_lt (g := gb178) (o := .cells #[.int .i64 t171, .int .i64 t172, .int .i64 t173, .int .i64 t174, .int .i64 t175, .int .u64 t176] 26 (0, 0)) (bt_ BK178)) : gb190 ≠ gb178)); have NB182_190 := Aside0.mk ((by rw [hg]; exact Nat.ne_of_lt (blk_lt (g := gb182) (o := .cells #[.int .i64 t171, .int .i64 t172, .int .i64 t173, .int .i64 t174, .int .i64 t175, .int .u64 t176, .int .i64 a0_6, .slice (some ad183) t179.length co67] 29 (0, 0)) (bp8_ (bq_ BK182))) : gb182 ≠ gb190)); have NB190_182 := Aside0.mk ((by rw [hg]; exact Nat.ne_of_gt (blk_lt (g := gb182) (o := .cells #[.int .i64 t171, .int .i64 t172, .int .i64 t173, .int .i64 t174, .int .i64 t175, .int .u64 t176, .int .i64 a0_6, .slice (some ad183) t179.length co67] 29 (0, 0)) (bp8_ (bq_ BK182))) : gb190 ≠ gb182)); replace HO181 := Aside0.mk (Kd.R_below (by (with_reducible repeat (first | apply Kd.R_alloc | apply Kd.R_drewN | apply Kd.R_drew)); exact (Kd.R_mono (rf8_ (g := gb182) (Kd.R_types HO181.out BK182.out (by decide)) (fun _ hk => hk.2)) (fun _ h_ => h_.1))) hb); replace BK163 := bf_ BK163 hb; replace BK164 := bf_ BK164 hb; replace BK165 := bf_ BK165 hb; replace BK178 := bf_ BK178 hb; replace BK182 := Aside0.mk (blk_below (g := gb182) (o := .cells #[.int .i64 t171, .int .i64 t172, .int .i64 t173, .int .i64 t174, .int .i64 t175, .int .u64 t176, .int .i64 a0_6, .slice (some ad183) t179.length co67] 29 (0, 0)) (bp8_ (bq_ BK182)) hb); replace HB := bs_ w hb; clear hb hg; replace hn190_163 := NB190_163.out; replace hn163_190 := NB163_190.out; replace hn190_164 := NB190_164.out; replace hn164_190 := NB164_190.out; replace hn190_165 := NB190_165.out; replace hn165_190 := NB165_190.out; replace hn190_178 := NB190_178.out; replace hn178_190 := NB178_190.out; replace hn190_182 := NB190_182.out; replace hn182_190 := NB182_190.out; replace hc190 := ce1_ BK190) | ((with_reducible refine gate_store (t := 77) (p := 16) rfl ?_); refine store_event (t := 77) (p := 16) (v := ?vo_w304) (w1 := (w297.setCell ⟨gb190, 0, none⟩ (.int .i64 t168))) ?hg ?ho ?hn ?hr ?_; (case ho => rfl); (case hg => rfl); (case hn => rfl); (case hr => first | (go_simp; done) | (go_simp; rfl)); intro w304 hw; replace HO181 : Aside0 (Kd.R (Kd.int .i64) 2 w304 w.heap.size (fun _ => True) (.slice (some ad183) t179.length co67) t179) := ⟨(by rw [hw]; exact (by (with_reducible repeat (first | apply Kd.R_alloc | apply Kd.R_drewN | apply Kd.R_drew)); exact Kd.R_mono (Kd.R_far (p := ⟨gb190, 0, none⟩) (Kd.R_types HO181.out BK190.out (by decide)) (fun _ hk => hk.2) (.int .i64 t168)) (fun _ hk => trivial)))⟩; replace BK163 : Aside0 (w304.heap[gb163]? = some (.cells #[.int .i64 a0_0, .int .i64 a0_1, .int .i64 a0_2, .int .i64 a0_3, .int .i64 a0_4, .int .u64 a0_5, .int .i64 a0_6, .slice A0_7 l0_7.length c0_7] 29 (0, 0))) := ⟨(by rw [hw]; exact (bt_ BK163))⟩; replace BK164 : Aside0 (w304.heap[gb164]? = some (.cells #[.int .u8 a1_0, .int .i64 a1_1, .int .u64 a1_2, .int .i64 a1_3] 31 (0, 0))) := ⟨(by rw [hw]; exact (bt_ BK164))⟩; replace BK165 : Aside0 (w304.heap[gb165]? = some (.cells #[.int .i64 0, .int .i64 0, .int .i64 0, .int .i64 0, .int .i64 0, .int .u64 0, .int .i64 0, .slice none 0 0] 29 (0, 0))) := ⟨(by rw [hw]; exact (bt_ BK165))⟩; replace BK178 : Aside0 (w304.heap[gb178]? = some (.cells #[.int .i64 t171, .int .i64 t172, .int .i64 t173, .int .i64 t174, .int .i64 t175, .int .u64 t176] 26 (0, 0))) := ⟨(by rw [hw]; exact (bt_ BK178))⟩; replace BK182 : Aside0 (w304.heap[gb182]? = some (.cells #[.int .i64 t171, .int .i64 t172, .int .i64 t173, .int .i64 t174, .int .i64 t175, .int .u64 t176, .int .i64 a0_6, .slice (some ad183) t179.length co67] 29 (0, 0))) := ⟨(by rw [hw]; exact (bt_ BK182))⟩; replace BK190 : Aside0 (w304.heap[gb190]? = some (.cells #[.int .i64 t168] 77 (0, 0))) := ⟨(by rw [hw]; exact (bp1_ (bq_ BK190)))⟩; replace HB : Aside0 (Below w.heap.size w w304) := ⟨(by rw [hw]; exact bh_)⟩; clear hw; replace hc182 := ce8_ BK182; have p202 : 0 ≤ (t170 : Int) := of_decide_eq_true (by first | (with_reducible assumption) | assumption); have q202 : (t170 : Int) < ((t179.length : Int) : Int) := of_decide_eq_true (by first | (with_reducible assumption) | assumption); obtain ⟨go202, co202, eo202, gb202, gl202, cl202, HG202⟩ := Kd.R_form HO181.out (by omega); (first | cases eo202 | (injection eo202 with ea_ en_ ec_; (first | subst ea_ | (injection ea_ with ea_; subst ea_)); subst ec_; clear en_)); have GB202 := Aside0.mk gb202; have GG202 := Aside0.mk HG202; clear gb202 gl202 HG202; (first | simp only [add_plain] at hx183_0 | skip); obtain ⟨hx202_0, hf202_0⟩ := Kd.R_celln 0 HO181.out (t170 : Int) p202 q202; replace p202 := eq_true p202; replace q202 := eq_true q202; obtain ⟨hy306_, hz306_⟩ := Kd.R_celln 0 HO181.out (t170 : Int) (of_decide_eq_true (by first | (with_reducible assumption) | assumption)) (of_decide_eq_true (by first | (with_reducible assumption) | assumption)); have HP306 := Kd.R_putg HO181.out (t170 : Int) 0) | ((with_reducible refine gate_store (t := 2) (p := 112) rfl ?_); refine store_event (t := 2) (p := 112) (v := ?vo_w307) (w1 := (w304.setCell ⟨go202, (t170 : Int).toNat, none⟩ (.int .i64 0))) ?hg ?ho ?hn ?hr ?_; (case ho => rfl); (case hg => rfl); (case hn => rfl); (case hr => first | (go_simp; done) | (go_simp; rfl)); intro w307 hw; have hg : w304.grownBy w307 (some go202) := (by rw [hw]; exact HP306.2); have hp_ : Kd.R (Kd.int .i64) 2 w307 w.heap.size (fun _ => True) (.slice (some ⟨go202, 0, none⟩) t179.length co67) y191 := (by rw [hw, Ny191.out]; exact HP306.1); clear HP306; replace BK163 := Aside0.mk (blk_grown (g := gb163) (o := .cells #[.int .i64 a0_0, .int .i64 a0_1, .int .i64 a0_2, .int .i64 a0_3, .int .i64 a0_4, .int .u64 a0_5, .int .i64 a0_6, .slice A0_7 l0_7.length c0_7] 29 (0, 0)) (bq_ BK163) hg (Kd.R_ne HO181.out BK163.out (by decide))); replace BK164 := Aside0.mk (blk_grown (g := gb164) (o := .cells #[.int .u8 a1_0, .int .i64 a1_1, .int .u64 a1_2, .int .i64 a1_3] 31 (0, 0)) (bq_ BK164) hg (Kd.R_ne HO181.out BK164.out (by decide))); replace BK165 := Aside0.mk (blk_grown (g := gb165) (o := .cells #[.int .i64 0, .int .i64 0, .int .i64 0, .int .i64 0, .int .i64 0, .int .u64 0, .int .i64 0, .slice none 0 0] 29 (0, 0)) (bq_ BK165) hg (Kd.R_ne HO181.out BK165.out (by decide))); replace BK178 := Aside0.mk (blk_grown (g := gb178) (o := .cells #[.int .i64 t171, .int .i64 t172, .int .i64 t173, .int .i64 t174, .int .i64 t175, .int .u64 t176] 26 (0, 0)) (bq_ BK178) hg (Kd.R_ne HO181.out BK178.out (by decide))); replace BK182 := Aside0.mk (blk_grown (g := gb182) (o := .cells #[.int .i64 t171, .int .i64 t172, .int .i64 t173, .int .i64 t174, .int .i64 t175, .int .u64 t176, .int .i64 a0_6, .slice (some ⟨go202, 0, none⟩) t179.length co67] 29 (0, 0)) (bq_ BK182) hg (Kd.R_ne HO181.out BK182.out (by decide))); replace BK190 := Aside0.mk (blk_grown (g := gb190) (o := .cells #[.int .i64 t168] 77 (0, 0)) (bq_ BK190) hg (Kd.R_ne HO181.out BK190.out (by decide))); replace HO181 := Aside0.mk (hp_); replace HB := Aside0.mk ((by rw [hw]; exact below_set (HB.out) GB202.out : Below w.heap.size w w307)); clear hg hw hp_; replace hc178 := ce6_ BK178; replace hc182 := ce8_ BK182; replace hc165 := ce8_ BK165))
         refine bodyPost_ret (results_ctt rfl _ _ gb165 29 #[.int .i64 t171, .int .i64 t172, .int .i64 t173, .int .i64 ji203, .int .i64 t175, .int .u64 t176, .int .i64 a0_6, .slice (some ⟨go202, 0, none⟩) t179.length co67] (0, 0) _ rfl (bp8_ (bt_ BK165)) Try.underlying29 rfl (by kernel_rfl)) rfl ?_
         exact ⟨_, by first | rfl | (simp [errW_none, errW_some] <;> rfl) | (simp only [← hji203]; first | rfl | (simp [errW_none, errW_some] <;> rfl)) | (simp [*, errW_none, errW_some] <;> rfl), by (with_reducible repeat (first | apply Kd.R_alloc | apply Kd.R_drewN | apply Kd.R_drew)); exact Kd.R_mono (rf8_ (g := gb165) (Kd.R_far (p := ⟨gb182, 3, none⟩) (Kd.R_types (Kd.R_types HO181.out BK182.out (by decide)) BK165.out (by decide)) (fun _ hk => hk.1.2) (.int .i64 ji203)) (fun _ hk => hk.2)) (fun _ hk => trivial), by repeat (first | (with_reducible first | exact HB.out | apply below_alloc | apply pw_below_drewN | apply below_drew1 | refine below_set ?_ GE163.out | refine below_set ?_ GE164.out | refine below_set ?_ GE165.out | refine below_set ?_ GE178.out | refine below_set ?_ GE182.out | refine below_set ?_ GE190.out) | exact HB.out)⟩
       ·rw [if_neg c201] at H
        have c201b0 : (t167 == 3) = false := beq_eq_false_iff_ne.mpr c201
        have c201b1 : (t167 != 3) = true := bne_iff_ne.mpr c201
        obtain ⟨y193, hy193⟩ : ∃ y_ : List Int, y_ = (t179.set (t170 : Int).toNat 0) := ⟨_, rfl⟩
        replace H : (some (t171, t172, t173, t174, t175, t176, a0_6, y193, rd t179 t170, 0)) = some (r1, r2, r3, r4, r5, r6, r7, r8, r9, r10) := by first | (rw [hy193]; with_reducible exact H) | (have H2_ := (Option.bind_some _ _).symm.trans H; rw [hy193]; with_reducible exact H2_) | (have H2_ := (Option.bind_some _ _).symm.trans H; with_reducible exact H2_) | with_reducible exact H | (rw [hy193]; exact H) | exact H
        have Ny193 := Aside0.mk hy193
        clear hy193
        simp only [Option.some.injEq, Prod.mk.injEq] at H
        obtain ⟨rfl, rfl, rfl, rfl, rfl, rfl, rfl, rfl, rfl, rfl⟩ := H
        replace hn182_163 := NB182_163.out
        replace hn163_182 := NB163_182.out
        replace hn182_164 := NB182_164.out
        replace hn164_182 := NB164_182.out
        replace hn182_165 := NB182_165.out
        replace hn165_182 := NB165_182.out
        replace hn182_178 := NB182_178.out
        replace hn178_182 := NB178_182.out
        replace hc182 := ce8_ BK182
        have p183 : 0 ≤ (t170 : Int) := of_decide_eq_true (by first | (with_reducible assumption) | assumption)
        have q183 : t170 < (t179.length : Int) := of_decide_eq_true (by first | (with_reducible assumption) | assumption)
        obtain ⟨ad183, e183, hx183_0⟩ := Kd.at_int (Kd.R_reads' HO181.out).2.2 t170 p183 q183
        cases e183
        have hn183_0 : ad183.block ≠ gb182 := Kd.own_blk (rn_ HO181.out BK182.out)
        have hn183_1 : ad183.block ≠ gb182 := Kd.own_blk (rn_ HO181.out BK182.out)
        have hn183_2 : ad183.block ≠ gb182 := Kd.own_blk (rn_ HO181.out BK182.out)
        have hn183_3 : ad183.block ≠ gb182 := Kd.own_blk (rn_ HO181.out BK182.out)
        have hn183_4 : ad183.block ≠ gb182 := Kd.own_blk (rn_ HO181.out BK182.out)
        have hn183_5 : ad183.block ≠ gb182 := Kd.own_blk (rn_ HO181.out BK182.out)
        have hn183_6 : ad183.block ≠ gb182 := Kd.own_blk (rn_ HO181.out BK182.out)
        have hn183_7 : ad183.block ≠ gb182 := Kd.own_blk (rn_ HO181.out BK182.out)
        replace hx183_0 := (cell_far (p := ⟨gb182, 0, none⟩) (by first | (rw [add_block]; exact hn183_0) | (show (Addr.add _ _).block ≠ _; rw [add_block]; exact hn183_0) | exact hn183_0) (.int .i64 t171)).trans hx183_0
        replace hx183_0 := (cell_far (p := ⟨gb182, 1, none⟩) (by first | (rw [add_block]; exact hn183_1) | (show (Addr.add _ _).block ≠ _; rw [add_block]; exact hn183_1) | exact hn183_1) (.int .i64 t172)).trans hx183_0
        replace hx183_0 := (cell_far (p := ⟨gb182, 2, none⟩) (by first | (rw [add_block]; exact hn183_2) | (show (Addr.add _ _).block ≠ _; rw [add_block]; exact hn183_2) | exact hn183_2) (.int .i64 t173)).trans hx183_0
        replace hx183_0 := (cell_far (p := ⟨gb182, 3, none⟩) (by first | (rw [add_block]; exact hn183_3) | (show (Addr.add _ _).block ≠ _; rw [add_block]; exact hn183_3) | exact hn183_3) (.int .i64 t174)).trans hx183_0
        replace hx183_0 := (cell_far (p := ⟨gb182, 4, none⟩) (by first | (rw [add_block]; exact hn183_4) | (show (Addr.add _ _).block ≠ _; rw [add_block]; exact hn183_4) | exact hn183_4) (.int .i64 t175)).trans hx183_0
        replace hx183_0 := (cell_far (p := ⟨gb182, 5, none⟩) (by first | (rw [add_block]; exact hn183_5) | (show (Addr.add _ _).block ≠ _; rw [add_block]; exact hn183_5) | exact hn183_5) (.int .u64 t176)).trans hx183_0
        replace hx183_0 := (cell_far (p := ⟨gb182, 6, none⟩) (by first | (rw [add_block]; exact hn183_6) | (show (Addr.add _ _).block ≠ _; rw [add_block]; exact hn183_6) | exact hn183_6) (.int .i64 a0_6)).trans hx183_0
        replace hx183_0 := (cell_far (p := ⟨gb182, 7, none⟩) (by first | (rw [add_block]; exact hn183_7) | (show (Addr.add _ _).block ≠ _; rw [add_block]; exact hn183_7) | exact hn183_7) (.slice (some ad183) t179.length co67)).trans hx183_0
        clear hn183_0
        clear hn183_1
        clear hn183_2
        clear hn183_3
        clear hn183_4
        clear hn183_5
        clear hn183_6
        clear hn183_7
        replace p183 := eq_true p183
        replace q183 := eq_true q183
        try go_wp2_with (first | ((with_reducible refine gate_dst (N := 17) rfl ?_); refine bx_ #[.int .i64 0] 78 ?_; intro gb192 hg w351 BK192 hb; have GW192 := bz_ w hg; have GE192 := GW192; have NB163_192 := Aside0.mk ((by rw [hg]; exact Nat.ne_of_lt (blk_lt (g := gb163) (o := .cells #[.int .i64 a0_0, .int .i64 a0_1, .int .i64 a0_2, .int .i64 a0_3, .int .i64 a0_4, .int .u64 a0_5, .int .i64 a0_6, .slice A0_7 l0_7.length c0_7] 29 (0, 0)) (bt_ BK163)) : gb163 ≠ gb192)); have NB192_163 := Aside0.mk ((by rw [hg]; exact Nat.ne_of_gt (blk_lt (g := gb163) (o := .cells #[.int .i64 a0_0, .int .i64 a0_1, .int .i64 a0_2, .int .i64 a0_3, .int .i64 a0_4, .int .u64 a0_5, .int .i64 a0_6, .slice A0_7 l0_7.length c0_7] 29 (0, 0)) (bt_ BK163)) : gb192 ≠ gb163)); have NB164_192 := Aside0.mk ((by rw [hg]; exact Nat.ne_of_lt (blk_lt (g := gb164) (o := .cells #[.int .u8 a1_0, .int .i64 a1_1, .int .u64 a1_2, .int .i64 a1_3] 31 (0, 0)) (bt_ BK164)) : gb164 ≠ gb192)); have NB192_164 := Aside0.mk ((by rw [hg]; exact Nat.ne_of_gt (blk_lt (g := gb164) (o := .cells #[.int .u8 a1_0, .int .i64 a1_1, .int .u64 a1_2, .int .i64 a1_3] 31 (0, 0)) (bt_ BK164)) : gb192 ≠ gb164)); have NB165_192 := Aside0.mk ((by rw [hg]; exact Nat.ne_of_lt (blk_lt (g := gb165) (o := .cells #[.int .i64 0, .int .i64 0, .int .i64 0, .int .i64 0, .int .i64 0, .int .u64 0, .int .i64 0, .slice none 0 0] 29 (0, 0)) (bt_ BK165)) : gb165 ≠ gb192)); have NB192_165 := Aside0.mk ((by rw [hg]; exact Nat.ne_of_gt (blk_lt (g := gb165) (o := .cells #[.int .i64 0, .int .i64 0, .int .i64 0, .int .i64 0, .int .i64 0, .int .u64 0, .int .i64 0, .slice none 0 0] 29 (0, 0)) (bt_ BK165)) : gb192 ≠ gb165)); have NB178_192 := Aside0.mk ((by rw [hg]; exact Nat.ne_of_lt (blk_lt (g := gb178) (o := .cells #[.int .i64 t171, .int .i64 t172, .int .i64 t173, .int .i64 t174, .int .i64 t175, .int .u64 t176] 26 (0, 0)) (bt_ BK178)) : gb178 ≠ gb192)); have NB192_178 := Aside0.mk ((by rw [hg]; exact Nat.ne_of_gt (blk_lt (g := gb178) (o := .cells #[.int .i64 t171, .int .i64 t172, .int .i64 t173, .int .i64 t174, .int .i64 t175, .int .u64 t176] 26 (0, 0)) (bt_ BK178)) : gb192 ≠ gb178)); have NB182_192 := Aside0.mk ((by rw [hg]; exact Nat.ne_of_lt (blk_lt (g := gb182) (o := .cells #[.int .i64 t171, .int .i64 t172, .int .i64 t173, .int .i64 t174, .int .i64 t175, .int .u64 t176, .int .i64 a0_6, .slice (some ad183) t179.length co67] 29 (0, 0)) (bp8_ (bq_ BK182))) : gb182 ≠ gb192)); have NB192_182 := Aside0.mk ((by rw [hg]; exact Nat.ne_of_gt (blk_lt (g := gb182) (o := .cells #[.int .i64 t171, .int .i64 t172, .int .i64 t173, .int .i64 t174, .int .i64 t175, .int .u64 t176, .int .i64 a0_6, .slice (some ad183) t179.length co67] 29 (0, 0)) (bp8_ (bq_ BK182))) : gb192 ≠ gb182)); replace HO181 := Aside0.mk (Kd.R_below (by (with_reducible repeat (first | apply Kd.R_alloc | apply Kd.R_drewN | apply Kd.R_drew)); exact (Kd.R_mono (rf8_ (g := gb182) (Kd.R_types HO181.out BK182.out (by decide)) (fun _ hk => hk.2)) (fun _ h_ => h_.1))) hb); replace BK163 := bf_ BK163 hb; replace BK164 := bf_ BK164 hb; replace BK165 := bf_ BK165 hb; replace BK178 := bf_ BK178 hb; replace BK182 := Aside0.mk (blk_below (g := gb182) (o := .cells #[.int .i64 t171, .int .i64 t172, .int .i64 t173, .int .i64 t174, .int .i64 t175, .int .u64 t176, .int .i64 a0_6, .slice (some ad183) t179.length co67] 29 (0, 0)) (bp8_ (bq_ BK182)) hb); replace HB := bs_ w hb; clear hb hg; replace hn192_163 := NB192_163.out; replace hn163_192 := NB163_192.out; replace hn192_164 := NB192_164.out; replace hn164_192 := NB164_192.out; replace hn192_165 := NB192_165.out; replace hn165_192 := NB165_192.out; replace hn192_178 := NB192_178.out; replace hn178_192 := NB178_192.out; replace hn192_182 := NB192_182.out; replace hn182_192 := NB182_192.out; replace hc192 := ce1_ BK192) | ((with_reducible refine gate_store (t := 78) (p := 17) rfl ?_); refine store_event (t := 78) (p := 17) (v := ?vo_w358) (w1 := (w351.setCell ⟨gb192, 0, none⟩ (.int .i64 t168))) ?hg ?ho ?hn ?hr ?_; (case ho => rfl); (case hg => rfl); (case hn => rfl); (case hr => first | (go_simp; done) | (go_simp; rfl)); intro w358 hw; replace HO181 : Aside0 (Kd.R (Kd.int .i64) 2 w358 w.heap.size (fun _ => True) (.slice (some ad183) t179.length co67) t179) := ⟨(by rw [hw]; exact (by (with_reducible repeat (first | apply Kd.R_alloc | apply Kd.R_drewN | apply Kd.R_drew)); exact Kd.R_mono (Kd.R_far (p := ⟨gb192, 0, none⟩) (Kd.R_types HO181.out BK192.out (by decide)) (fun _ hk => hk.2) (.int .i64 t168)) (fun _ hk => trivial)))⟩; replace BK163 : Aside0 (w358.heap[gb163]? = some (.cells #[.int .i64 a0_0, .int .i64 a0_1, .int .i64 a0_2, .int .i64 a0_3, .int .i64 a0_4, .int .u64 a0_5, .int .i64 a0_6, .slice A0_7 l0_7.length c0_7] 29 (0, 0))) := ⟨(by rw [hw]; exact (bt_ BK163))⟩; replace BK164 : Aside0 (w358.heap[gb164]? = some (.cells #[.int .u8 a1_0, .int .i64 a1_1, .int .u64 a1_2, .int .i64 a1_3] 31 (0, 0))) := ⟨(by rw [hw]; exact (bt_ BK164))⟩; replace BK165 : Aside0 (w358.heap[gb165]? = some (.cells #[.int .i64 0, .int .i64 0, .int .i64 0, .int .i64 0, .int .i64 0, .int .u64 0, .int .i64 0, .slice none 0 0] 29 (0, 0))) := ⟨(by rw [hw]; exact (bt_ BK165))⟩; replace BK178 : Aside0 (w358.heap[gb178]? = some (.cells #[.int .i64 t171, .int .i64 t172, .int .i64 t173, .int .i64 t174, .int .i64 t175, .int .u64 t176] 26 (0, 0))) := ⟨(by rw [hw]; exact (bt_ BK178))⟩; replace BK182 : Aside0 (w358.heap[gb182]? = some (.cells #[.int .i64 t171, .int .i64 t172, .int .i64 t173, .int .i64 t174, .int .i64 t175, .int .u64 t176, .int .i64 a0_6, .slice (some ad183) t179.length co67] 29 (0, 0))) := ⟨(by rw [hw]; exact (bt_ BK182))⟩; replace BK192 : Aside0 (w358.heap[gb192]? = some (.cells #[.int .i64 t168] 78 (0, 0))) := ⟨(by rw [hw]; exact (bp1_ (bq_ BK192)))⟩; replace HB : Aside0 (Below w.heap.size w w358) := ⟨(by rw [hw]; exact bh_)⟩; clear hw; replace hc182 := ce8_ BK182; have p311 : 0 ≤ (t170 : Int) := of_decide_eq_true (by first | (with_reducible assumption) | assumption); have q311 : (t170 : Int) < ((t179.length : Int) : Int) := of_decide_eq_true (by first | (with_reducible assumption) | assumption); obtain ⟨go311, co311, eo311, gb311, gl311, cl311, HG311⟩ := Kd.R_form HO181.out (by omega); (first | cases eo311 | (injection eo311 with ea_ en_ ec_; (first | subst ea_ | (injection ea_ with ea_; subst ea_)); subst ec_; clear en_)); have GB311 := Aside0.mk gb311; have GG311 := Aside0.mk HG311; clear gb311 gl311 HG311; (first | simp only [add_plain] at hx183_0 | skip); obtain ⟨hx311_0, hf311_0⟩ := Kd.R_celln 0 HO181.out (t170 : Int) p311 q311; replace p311 := eq_true p311; replace q311 := eq_true q311; obtain ⟨hy360_, hz360_⟩ := Kd.R_celln 0 HO181.out (t170 : Int) (of_decide_eq_true (by first | (with_reducible assumption) | assumption)) (of_decide_eq_true (by first | (with_reducible assumption) | assumption)); have HP360 := Kd.R_putg HO181.out (t170 : Int) 0) | ((with_reducible refine gate_store (t := 2) (p := 138) rfl ?_); refine store_event (t := 2) (p := 138) (v := ?vo_w361) (w1 := (w358.setCell ⟨go311, (t170 : Int).toNat, none⟩ (.int .i64 0))) ?hg ?ho ?hn ?hr ?_; (case ho => rfl); (case hg => rfl); (case hn => rfl); (case hr => first | (go_simp; done) | (go_simp; rfl)); intro w361 hw; have hg : w358.grownBy w361 (some go311) := (by rw [hw]; exact HP360.2); have hp_ : Kd.R (Kd.int .i64) 2 w361 w.heap.size (fun _ => True) (.slice (some ⟨go311, 0, none⟩) t179.length co67) y193 := (by rw [hw, Ny193.out]; exact HP360.1); clear HP360; replace BK163 := Aside0.mk (blk_grown (g := gb163) (o := .cells #[.int .i64 a0_0, .int .i64 a0_1, .int .i64 a0_2, .int .i64 a0_3, .int .i64 a0_4, .int .u64 a0_5, .int .i64 a0_6, .slice A0_7 l0_7.length c0_7] 29 (0, 0)) (bq_ BK163) hg (Kd.R_ne HO181.out BK163.out (by decide))); replace BK164 := Aside0.mk (blk_grown (g := gb164) (o := .cells #[.int .u8 a1_0, .int .i64 a1_1, .int .u64 a1_2, .int .i64 a1_3] 31 (0, 0)) (bq_ BK164) hg (Kd.R_ne HO181.out BK164.out (by decide))); replace BK165 := Aside0.mk (blk_grown (g := gb165) (o := .cells #[.int .i64 0, .int .i64 0, .int .i64 0, .int .i64 0, .int .i64 0, .int .u64 0, .int .i64 0, .slice none 0 0] 29 (0, 0)) (bq_ BK165) hg (Kd.R_ne HO181.out BK165.out (by decide))); replace BK178 := Aside0.mk (blk_grown (g := gb178) (o := .cells #[.int .i64 t171, .int .i64 t172, .int .i64 t173, .int .i64 t174, .int .i64 t175, .int .u64 t176] 26 (0, 0)) (bq_ BK178) hg (Kd.R_ne HO181.out BK178.out (by decide))); replace BK182 := Aside0.mk (blk_grown (g := gb182) (o := .cells #[.int .i64 t171, .int .i64 t172, .int .i64 t173, .int .i64 t174, .int .i64 t175, .int .u64 t176, .int .i64 a0_6, .slice (some ⟨go311, 0, none⟩) t179.length co67] 29 (0, 0)) (bq_ BK182) hg (Kd.R_ne HO181.out BK182.out (by decide))); replace BK192 := Aside0.mk (blk_grown (g := gb192) (o := .cells #[.int .i64 t168] 78 (0, 0)) (bq_ BK192) hg (Kd.R_ne HO181.out BK192.out (by decide))); replace HO181 := Aside0.mk (hp_); replace HB := Aside0.mk ((by rw [hw]; exact below_set (HB.out) GB311.out : Below w.heap.size w w361)); clear hg hw hp_; replace hc182 := ce8_ BK182; replace hc165 := ce8_ BK165))
        refine bodyPost_ret (results_ctt rfl _ _ gb165 29 #[.int .i64 t171, .int .i64 t172, .int .i64 t173, .int .i64 t174, .int .i64 t175, .int .u64 t176, .int .i64 a0_6, .slice (some ⟨go311, 0, none⟩) t179.length co67] (0, 0) _ rfl (bp8_ (bq_ BK165)) Try.underlying29 rfl (by kernel_rfl)) rfl ?_
        exact ⟨_, by first | rfl | (simp [errW_none, errW_some] <;> rfl) | (simp [*, errW_none, errW_some] <;> rfl), by (with_reducible repeat (first | apply Kd.R_alloc | apply Kd.R_drewN | apply Kd.R_drew)); exact Kd.R_mono (rf8_ (g := gb165) (Kd.R_types HO181.out BK165.out (by decide)) (fun _ hk => hk.2)) (fun _ hk => trivial), by repeat (first | (with_reducible first | exact HB.out | apply below_alloc | apply pw_below_drewN | apply below_drew1 | refine below_set ?_ GE163.out | refine below_set ?_ GE164.out | refine below_set ?_ GE165.out | refine below_set ?_ GE178.out | refine below_set ?_ GE182.out | refine below_set ?_ GE192.out) | exact HB.out)⟩
    ·rw [if_neg c34] at H
     have c34b0 : (t177 == 0) = false := beq_eq_false_iff_ne.mpr c34
     have c34b1 : (t177 != 0) = true := bne_iff_ne.mpr c34
     simp only [Option.some.injEq, Prod.mk.injEq] at H
     obtain ⟨rfl, rfl, rfl, rfl, rfl, rfl, rfl, rfl, rfl, rfl⟩ := H
     go_enter Try.func14, Try.ntmps14
     go_wp2_with (first | ((with_reducible refine gate_dst (N := 2) rfl ?_); refine bx_ #[.int .i64 a0_0, .int .i64 a0_1, .int .i64 a0_2, .int .i64 a0_3, .int .i64 a0_4, .int .u64 a0_5, .int .i64 a0_6, .slice A0_7 l0_7.length c0_7] 29 ?_; intro gb163 hg w364 BK163 hb; have GW163 := bz_ w hg; have GE163 := GW163; replace HB := bs_ w hb; clear hb hg) | ((with_reducible refine gate_dst (N := 3) rfl ?_); refine bx_ #[.int .u8 a1_0, .int .i64 a1_1, .int .u64 a1_2, .int .i64 a1_3] 31 ?_; intro gb164 hg w365 BK164 hb; have GW164 := bz_ w hg; have GE164 := GW164; have NB163_164 := bn_ BK163 hg; have NB164_163 := bm_ BK163 hg; replace BK163 := bb_ BK163 hb; replace HB := bs_ w hb; clear hb hg) | ((with_reducible refine gate_dst (N := 4) rfl ?_); refine bx_ #[.int .i64 0, .int .i64 0, .int .i64 0, .int .i64 0, .int .i64 0, .int .u64 0, .int .i64 0, .slice none 0 0] 29 ?_; intro gb165 hg w366 BK165 hb; have GW165 := bz_ w hg; have GE165 := GW165; have NB163_165 := bn_ BK163 hg; have NB165_163 := bm_ BK163 hg; have NB164_165 := bn_ BK164 hg; have NB165_164 := bm_ BK164 hg; replace BK163 := bb_ BK163 hb; replace BK164 := bb_ BK164 hb; replace HB := bs_ w hb; clear hb hg; replace hn163_164 := NB163_164.out; replace hn164_163 := NB164_163.out; replace hn163_165 := NB163_165.out; replace hn165_163 := NB165_163.out; replace hc163 := ce8_ BK163) | ((with_reducible refine gate_callee (f := 27) rfl ?_); refine goesA_ (some 19) Try.func27 #[.agg #[.int .i64 a0_0, .int .i64 a0_1, .int .i64 a0_2, .int .i64 a0_3, .int .i64 a0_4, .int .u64 a0_5, .int .i64 a0_6, .slice A0_7 l0_7.length c0_7]] ?_; (with_reducible refine (lease_Check.calls k a0_0 a0_1 a0_2 a0_3 a0_4 a0_5 a0_6 _ _ l0_7 t166 _ ?side1 ?side2 A3.out).mono ?_); (case side1 => exact cs_ HR0_7 HB); (case side2 => exact HC0_7.out); rintro e w370 ⟨rfl, hb⟩; refine ⟨_, rfl, ?_⟩; replace BK163 := bb_ BK163 hb; replace BK164 := bb_ BK164 hb; replace BK165 := bb_ BK165 hb; replace HB := bs_ w hb; clear hb; replace hn164_165 := NB164_165.out; replace hn165_164 := NB165_164.out; replace hc164 := ce4_ BK164) | ((with_reducible refine gate_callee (f := 30) rfl ?_); refine goesA_ (some 25) Try.func30 #[.agg #[.int .u8 a1_0, .int .i64 a1_1, .int .u64 a1_2, .int .i64 a1_3]] ?_; (with_reducible refine (lease_read.calls k a1_0 a1_1 a1_2 a1_3 t167 t168 t169 _ A5.out).mono ?_); rintro e w373 ⟨rfl, hb⟩; refine ⟨_, rfl, ?_⟩; replace BK163 := bb_ BK163 hb; replace BK164 := bb_ BK164 hb; replace BK165 := bb_ BK165 hb; replace HB := bs_ w hb; clear hb) | ((with_reducible refine gate_invoke rfl ?_); refine goesI_ (some 30) rfl rfl rfl (t := t167) (o := t168) (n := t169) rfl ?_; (with_reducible refine (lease_take_host.calls t167 t168 t169 t170 _ A18.out).mono ?_); rintro e w374 ⟨rfl, hb⟩; refine ⟨_, rfl, ?_⟩; replace BK163 := bb_ BK163 hb; replace BK164 := bb_ BK164 hb; replace BK165 := bb_ BK165 hb; replace HB := bs_ w hb; clear hb; replace hc163 := ce8_ BK163; replace hc164 := ce4_ BK164) | ((with_reducible refine gate_callee (f := 31) rfl ?_); refine goesA_ (some 42) Try.func31 #[.agg #[.int .i64 a0_0, .int .i64 a0_1, .int .i64 a0_2, .int .i64 a0_3, .int .i64 a0_4, .int .u64 a0_5], .int .u64 a1_2] ?_; (with_reducible refine (bucket_Refill.calls k a0_0 a0_1 a0_2 a0_3 a0_4 a0_5 a1_2 t171 t172 t173 t174 t175 t176 t177 _ A33.out).mono ?_); rintro e w377 ⟨rfl, hb⟩; refine ⟨_, rfl, ?_⟩; replace BK163 := bb_ BK163 hb; replace BK164 := bb_ BK164 hb; replace BK165 := bb_ BK165 hb; replace HB := bs_ w hb; clear hb) | ((with_reducible refine gate_dst (N := 10) rfl ?_); refine bx_ #[.int .i64 0, .int .i64 0, .int .i64 0, .int .i64 0, .int .i64 0, .int .u64 0] 26 ?_; intro gb178 hg w378 BK178 hb; have GW178 := bz_ w hg; have GE178 := GW178; have NB163_178 := bn_ BK163 hg; have NB178_163 := bm_ BK163 hg; have NB164_178 := bn_ BK164 hg; have NB178_164 := bm_ BK164 hg; have NB165_178 := bn_ BK165 hg; have NB178_165 := bm_ BK165 hg; replace BK163 := bb_ BK163 hb; replace BK164 := bb_ BK164 hb; replace BK165 := bb_ BK165 hb; replace HB := bs_ w hb; clear hb hg; replace hn178_163 := NB178_163.out; replace hn163_178 := NB163_178.out; replace hn178_164 := NB178_164.out; replace hn164_178 := NB164_178.out; replace hn178_165 := NB178_165.out; replace hn165_178 := NB165_178.out; replace hc178 := ce6_ BK178; replace hc165 := ce8_ BK165))
     refine bodyPost_ret (results_ctt rfl _ _ gb165 29 #[.int .i64 0, .int .i64 0, .int .i64 0, .int .i64 0, .int .i64 0, .int .u64 0, .int .i64 0, .slice none 0 0] (0, 0) _ rfl (bp8_ (bt_ BK165)) Try.underlying29 rfl (by kernel_rfl)) rfl ?_
     exact ⟨_, by first | rfl | (simp [errW_none, errW_some] <;> rfl) | (simp [*, errW_none, errW_some] <;> rfl), by first | exact Kd.R_nil _ _ _ _ _ | exact Kd.N_nil _ _ _ _ _ | exact Kd.V_nil _ _ _ _ _ | exact Kd.Q_nil _ _ _ _ _ | exact Kd.S_nil _ _ _ _ _, by repeat (first | (with_reducible first | exact HB.out | apply below_alloc | apply pw_below_drewN | apply below_drew1 | refine below_set ?_ GE163.out | refine below_set ?_ GE164.out | refine below_set ?_ GE165.out | refine below_set ?_ GE178.out) | exact HB.out)⟩
 ·rw [if_neg c4] at H
  have c4b0 : (t166 == 0) = false := beq_eq_false_iff_ne.mpr c4
  have c4b1 : (t166 != 0) = true := bne_iff_ne.mpr c4
  simp only [Option.some.injEq, Prod.mk.injEq] at H
  obtain ⟨rfl, rfl, rfl, rfl, rfl, rfl, rfl, rfl, rfl, rfl⟩ := H
  go_enter Try.func14, Try.ntmps14
  go_wp2_with (first | ((with_reducible refine gate_dst (N := 2) rfl ?_); refine bx_ #[.int .i64 a0_0, .int .i64 a0_1, .int .i64 a0_2, .int .i64 a0_3, .int .i64 a0_4, .int .u64 a0_5, .int .i64 a0_6, .slice A0_7 l0_7.length c0_7] 29 ?_; intro gb163 hg w384 BK163 hb; have GW163 := bz_ w hg; have GE163 := GW163; replace HB := bs_ w hb; clear hb hg) | ((with_reducible refine gate_dst (N := 3) rfl ?_); refine bx_ #[.int .u8 a1_0, .int .i64 a1_1, .int .u64 a1_2, .int .i64 a1_3] 31 ?_; intro gb164 hg w385 BK164 hb; have GW164 := bz_ w hg; have GE164 := GW164; have NB163_164 := bn_ BK163 hg; have NB164_163 := bm_ BK163 hg; replace BK163 := bb_ BK163 hb; replace HB := bs_ w hb; clear hb hg) | ((with_reducible refine gate_dst (N := 4) rfl ?_); refine bx_ #[.int .i64 0, .int .i64 0, .int .i64 0, .int .i64 0, .int .i64 0, .int .u64 0, .int .i64 0, .slice none 0 0] 29 ?_; intro gb165 hg w386 BK165 hb; have GW165 := bz_ w hg; have GE165 := GW165; have NB163_165 := bn_ BK163 hg; have NB165_163 := bm_ BK163 hg; have NB164_165 := bn_ BK164 hg; have NB165_164 := bm_ BK164 hg; replace BK163 := bb_ BK163 hb; replace BK164 := bb_ BK164 hb; replace HB := bs_ w hb; clear hb hg; replace hn163_164 := NB163_164.out; replace hn164_163 := NB164_163.out; replace hn163_165 := NB163_165.out; replace hn165_163 := NB165_163.out; replace hc163 := ce8_ BK163) | ((with_reducible refine gate_callee (f := 27) rfl ?_); refine goesA_ (some 19) Try.func27 #[.agg #[.int .i64 a0_0, .int .i64 a0_1, .int .i64 a0_2, .int .i64 a0_3, .int .i64 a0_4, .int .u64 a0_5, .int .i64 a0_6, .slice A0_7 l0_7.length c0_7]] ?_; (with_reducible refine (lease_Check.calls k a0_0 a0_1 a0_2 a0_3 a0_4 a0_5 a0_6 _ _ l0_7 t166 _ ?side1 ?side2 A3.out).mono ?_); (case side1 => exact cs_ HR0_7 HB); (case side2 => exact HC0_7.out); rintro e w390 ⟨rfl, hb⟩; refine ⟨_, rfl, ?_⟩; replace BK163 := bb_ BK163 hb; replace BK164 := bb_ BK164 hb; replace BK165 := bb_ BK165 hb; replace HB := bs_ w hb; clear hb; replace hn165_164 := NB165_164.out; replace hn164_165 := NB164_165.out; replace hc165 := ce8_ BK165))
  refine bodyPost_ret (results_ctt rfl _ _ gb165 29 #[.int .i64 0, .int .i64 0, .int .i64 0, .int .i64 0, .int .i64 0, .int .u64 0, .int .i64 0, .slice none 0 0] (0, 0) _ rfl (bp8_ (bq_ BK165)) Try.underlying29 rfl (by kernel_rfl)) rfl ?_
  exact ⟨_, by first | rfl | (simp [errW_none, errW_some] <;> rfl) | (simp [*, errW_none, errW_some] <;> rfl), by first | exact Kd.R_nil _ _ _ _ _ | exact Kd.N_nil _ _ _ _ _ | exact Kd.V_nil _ _ _ _ _ | exact Kd.Q_nil _ _ _ _ _ | exact Kd.S_nil _ _ _ _ _, by repeat (first | (with_reducible first | exact HB.out | apply below_alloc | apply pw_below_drewN | apply below_drew1 | refine below_set ?_ GE163.out | refine below_set ?_ GE164.out | refine below_set ?_ GE165.out) | exact HB.out)⟩

end Go.Proofs.Ytbfdpodlnijeoaa.X
