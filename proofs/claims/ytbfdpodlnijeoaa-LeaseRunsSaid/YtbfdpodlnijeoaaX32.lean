-- written by xprint.py, a program of this session over the kit's print
import Derived.Test.YtbfdpodlnijeoaaX0
import Derived.Test.YtbfdpodlnijeoaaX15
import Derived.Test.YtbfdpodlnijeoaaX16
import Derived.Test.YtbfdpodlnijeoaaX17
import Derived.Test.YtbfdpodlnijeoaaX22
import Derived.Test.YtbfdpodlnijeoaaX29
import Derived.Test.YtbfdpodlnijeoaaX30
import Derived.Test.YtbfdpodlnijeoaaX31
namespace Go.Proofs.Ytbfdpodlnijeoaa.X
open Go.RowKit Go.Proofs.YtbfdpodlnijeoaaW.PrintWords Go.Proofs.YtbfdpodlnijeoaaW.PrintLast Go.Proofs.YtbfdpodlnijeoaaW.PrintMore
attribute [local go_sem] max2_int min2_int max_two min_two max_three min_three max_four min_four   -- for this text's walks alone
set_option linter.unusedVariables false
set_option linter.unusedSimpArgs false

/-! ### spigotlaw42_LeaseRuns: function 5 -/
def spigotlaw42_LeaseRuns.j0 : Nat → List (S31) → List Int → Bool → Int → Int → Int → Int → Int → Int → Int → List Int → Option (Bool)
  | 0, _, _, _, _, _, _, _, _, _, _, _ => none
  | k + 1, x1, x2, x24, x480000, x480001, x480002, x480003, x480004, x480005, x480006, x480007 => if x24 = true then (some true) else ((lease_Run.f k x480000 x480001 x480002 x480003 x480004 x480005 x480006 x480007 x1).bind fun bt481 => ((spigotref42_Run.f k x480000 x480001 x480002 x480003 x480004 x480005 x480006 x480007 x1).bind fun bt496 => ((lease_Spent.f k x1 x2).bind fun bt511 => ((spigotref42_Spent.f k x1 x2).bind fun bt513 => ((spigotref42_Same.f k bt481.1 bt481.2.1 bt481.2.2.1 bt481.2.2.2.1 bt481.2.2.2.2.1 bt481.2.2.2.2.2.1 bt481.2.2.2.2.2.2.1 bt481.2.2.2.2.2.2.2.1 bt496.1 bt496.2.1 bt496.2.2.1 bt496.2.2.2.1 bt496.2.2.2.2.1 bt496.2.2.2.2.2.1 bt496.2.2.2.2.2.2.1 bt496.2.2.2.2.2.2.2.1).bind fun t515 => (if t515 = true then ((spigotref42_SameLongs.f k bt481.2.2.2.2.2.2.2.2.1 bt496.2.2.2.2.2.2.2.2.1).bind fun t516 => (if t516 = true then (if bt481.2.2.2.2.2.2.2.2.2 = bt496.2.2.2.2.2.2.2.2.2 then (if bt511.1 = bt513.1 then (some (bt511.2 == bt513.2)) else (none)) else (none)) else (none))) else (none)))))))
def spigotlaw42_LeaseRuns.f (k : Nat) (a0_0 : Int) (a0_1 : Int) (a0_2 : Int) (a0_3 : Int) (a0_4 : Int) (a0_5 : Int) (a0_6 : Int) (l0_7 : List Int) (l1 : List (S31)) (l2 : List Int) : Option (Bool) := (spigotref42_Great.f a0_0 a0_1 a0_2 a0_3 a0_4 a0_5 a0_6 l0_7 l1).bind fun t480 => (if t480 = true then (spigotlaw42_LeaseRuns.j0 k l1 l2 true a0_0 a0_1 a0_2 a0_3 a0_4 a0_5 a0_6 l0_7) else (spigotlaw42_LeaseRuns.j0 k l1 l2 (decide ((l2.length : Int) > 150)) a0_0 a0_1 a0_2 a0_3 a0_4 a0_5 a0_6 l0_7))
theorem spigotlaw42_LeaseRuns.mono_l : ∀ k, (∀ y0 y1 y2 y3 y4 y5 y6 y7 y8 y9 y10, LeO (spigotlaw42_LeaseRuns.j0 k y0 y1 y2 y3 y4 y5 y6 y7 y8 y9 y10) (spigotlaw42_LeaseRuns.j0 (k + 1) y0 y1 y2 y3 y4 y5 y6 y7 y8 y9 y10))
  | 0 => fun _ _ _ _ _ _ _ _ _ _ _ r h => by simp [spigotlaw42_LeaseRuns.j0] at h
  | k + 1 => by
    have ih0 := spigotlaw42_LeaseRuns.mono_l k
    · intro y0 y1 y2 y3 y4 y5 y6 y7 y8 y9 y10
      unfold spigotlaw42_LeaseRuns.j0
      repeat' first
      | (with_reducible exact ih0 _ _ _ _ _ _ _ _ _ _ _)
      | (with_reducible exact lease_Run.mono _ _ _ _ _ _ _ _ _ _)
      | (with_reducible exact lease_Spent.mono _ _ _)
      | (with_reducible exact spigotref42_Run.mono _ _ _ _ _ _ _ _ _ _)
      | (with_reducible exact spigotref42_Same.mono _ _ _ _ _ _ _ _ _ _ _ _ _ _ _ _ _)
      | (with_reducible exact spigotref42_SameLongs.mono _ _ _)
      | (with_reducible exact spigotref42_Spent.mono _ _ _)
      | (with_reducible exact LeO.refl _)
      | (with_reducible exact LeO.none _)
      | (with_reducible refine LeO.ite ?_ ?_)
      | (with_reducible refine LeO.bind ?_ (fun _ => ?_))
      | exact ih0 _ _ _ _ _ _ _ _ _ _ _
      | exact lease_Run.mono _ _ _ _ _ _ _ _ _ _
      | exact lease_Spent.mono _ _ _
      | exact spigotref42_Run.mono _ _ _ _ _ _ _ _ _ _
      | exact spigotref42_Same.mono _ _ _ _ _ _ _ _ _ _ _ _ _ _ _ _ _
      | exact spigotref42_SameLongs.mono _ _ _
      | exact spigotref42_Spent.mono _ _ _
      | exact LeO.none _
      | refine LeO.ite ?_ ?_
      | refine LeO.bind ?_ (fun _ => ?_)
theorem spigotlaw42_LeaseRuns.mono : ∀ a0 a1 a2 a3 a4 a5 a6 a7 a8 a9 k, LeO (spigotlaw42_LeaseRuns.f k a0 a1 a2 a3 a4 a5 a6 a7 a8 a9) (spigotlaw42_LeaseRuns.f (k + 1) a0 a1 a2 a3 a4 a5 a6 a7 a8 a9) := by
  intro a0 a1 a2 a3 a4 a5 a6 a7 a8 a9 k
  have ih0 := spigotlaw42_LeaseRuns.mono_l k
  unfold spigotlaw42_LeaseRuns.f
  repeat' first
      | (with_reducible exact ih0 _ _ _ _ _ _ _ _ _ _ _)
      | (with_reducible exact lease_Run.mono _ _ _ _ _ _ _ _ _ _)
      | (with_reducible exact lease_Spent.mono _ _ _)
      | (with_reducible exact spigotref42_Run.mono _ _ _ _ _ _ _ _ _ _)
      | (with_reducible exact spigotref42_Same.mono _ _ _ _ _ _ _ _ _ _ _ _ _ _ _ _ _)
      | (with_reducible exact spigotref42_SameLongs.mono _ _ _)
      | (with_reducible exact spigotref42_Spent.mono _ _ _)
      | (with_reducible exact LeO.refl _)
      | (with_reducible exact LeO.none _)
      | (with_reducible refine LeO.ite ?_ ?_)
      | (with_reducible refine LeO.bind ?_ (fun _ => ?_))
      | exact ih0 _ _ _ _ _ _ _ _ _ _ _
      | exact lease_Run.mono _ _ _ _ _ _ _ _ _ _
      | exact lease_Spent.mono _ _ _
      | exact spigotref42_Run.mono _ _ _ _ _ _ _ _ _ _
      | exact spigotref42_Same.mono _ _ _ _ _ _ _ _ _ _ _ _ _ _ _ _ _
      | exact spigotref42_SameLongs.mono _ _ _
      | exact spigotref42_Spent.mono _ _ _
      | exact LeO.none _
      | refine LeO.ite ?_ ?_
      | refine LeO.bind ?_ (fun _ => ?_)
set_option maxHeartbeats 8000000 in
set_option maxRecDepth 100000 in
theorem spigotlaw42_LeaseRuns.calls (k : Nat) (a0_0 : Int) (a0_1 : Int) (a0_2 : Int) (a0_3 : Int) (a0_4 : Int) (a0_5 : Int) (a0_6 : Int) (A0_7 : Option Addr) (c0_7 : Nat) (l0_7 : List Int) (A1 : Option Addr) (c1 : Nat) (l1 : List (S31)) (A2 : Option Addr) (c2 : Nat) (l2 : List Int) (r : Bool) (w : World) (hr0_7 : Kd.C (Kd.int .i64) w A0_7 l0_7.length l0_7) (hc0_7 : l0_7.length ≤ c0_7) (hr1 : Kd.C k31 w A1 l1.length l1) (hc1 : l1.length ≤ c1) (hr2 : Kd.C (Kd.int .i64) w A2 l2.length l2) (hc2 : l2.length ≤ c2) (h : spigotlaw42_LeaseRuns.f k a0_0 a0_1 a0_2 a0_3 a0_4 a0_5 a0_6 l0_7 l1 l2 = some r) :
  Calls Try.prog 5 #[.agg #[.int .i64 a0_0, .int .i64 a0_1, .int .i64 a0_2, .int .i64 a0_3, .int .i64 a0_4, .int .u64 a0_5, .int .i64 a0_6, .slice A0_7 l0_7.length c0_7], .slice A1 l1.length c1, .slice A2 l2.length c2] w fun e w' => e = .returned (.bool r) ∧ Below w.heap.size w w' := by
 have hu29 := Try.underlying29
 have HR0_7 := Aside0.mk hr0_7
 have HC0_7 := Aside0.mk hc0_7
 clear hr0_7 hc0_7
 have HR1 := Aside0.mk hr1
 have HC1 := Aside0.mk hc1
 clear hr1 hc1
 have HR2 := Aside0.mk hr2
 have HC2 := Aside0.mk hc2
 clear hr2 hc2
 have HB := Aside0.mk (Below.refl w.heap.size w)
 have H : ((spigotref42_Great.f a0_0 a0_1 a0_2 a0_3 a0_4 a0_5 a0_6 l0_7 l1).bind fun t480 => (if t480 = true then (spigotlaw42_LeaseRuns.j0 k l1 l2 true a0_0 a0_1 a0_2 a0_3 a0_4 a0_5 a0_6 l0_7) else (spigotlaw42_LeaseRuns.j0 k l1 l2 (decide ((l2.length : Int) > 150)) a0_0 a0_1 a0_2 a0_3 a0_4 a0_5 a0_6 l0_7))) = some r := h
 clear h
 have HC4 := Aside0.mk H
 clear H
 go_enter Try.func5, Try.ntmps5
 go_upto_region 1 with (first | ((with_reducible refine gate_dst (N := 3) rfl ?_); (try refine ug_ (by rfl) ?_); refine bx_ #[.int .i64 a0_0, .int .i64 a0_1, .int .i64 a0_2, .int .i64 a0_3, .int .i64 a0_4, .int .u64 a0_5, .int .i64 a0_6, .slice A0_7 l0_7.length c0_7] 29 ?_; intro gb479 hg w5 BK479 hb; have GW479 := bz_ w hg; replace HB := bs_ w hb; clear hb hg))
 (try simp only [Act.put, List.setIfInBounds_toArray, List.set_cons_zero, List.set_cons_succ])
 go_cut [24] (fun v24 wc => ∃ (kq : Nat) (x24_3 : Bool), v24 = .bool x24_3 ∧ Aside0 (spigotlaw42_LeaseRuns.j0 kq l1 l2 x24_3 a0_0 a0_1 a0_2 a0_3 a0_4 a0_5 a0_6 l0_7 = some r) ∧ Aside0 (kq ≤ k) ∧ Aside0 (wc.heap[gb479]? = some (.cells #[.int .i64 a0_0, .int .i64 a0_1, .int .i64 a0_2, .int .i64 a0_3, .int .i64 a0_4, .int .u64 a0_5, .int .i64 a0_6, (.slice A0_7 l0_7.length c0_7)] 29 (0, 0))) ∧ Aside0 (Below w.heap.size w wc))
 case first =>
  have H := HC4.out
  clear HC4
  obtain ⟨t480, A6, H⟩ := bo_ H
  try dsimp only at H
  by_cases c7 : t480 = true
  ·subst c7
   rw [if_pos rfl] at H
   try dsimp only at H
   have H' := Aside0.mk H
   clear H
   replace hc479 := ce8_ BK479
   go_wp2_with (first | ((with_reducible refine gate_callee (f := 11) rfl ?_); (try refine ug_ (by rfl) ?_); refine goesA_ (some 19) Try.func11 #[.agg #[.int .i64 a0_0, .int .i64 a0_1, .int .i64 a0_2, .int .i64 a0_3, .int .i64 a0_4, .int .u64 a0_5, .int .i64 a0_6, .slice A0_7 l0_7.length c0_7], .slice A1 l1.length c1] ?_; (with_reducible refine (spigotref42_Great.calls a0_0 a0_1 a0_2 a0_3 a0_4 a0_5 a0_6 _ _ l0_7 _ _ l1 true _ ?side1 ?side2 ?side3 ?side4 A6.out).mono ?_); (case side1 => exact cs_ HR0_7 HB); (case side2 => exact HC0_7.out); (case side3 => exact cs_ HR1 HB); (case side4 => exact HC1.out); rintro e w9 ⟨rfl, hb⟩; refine ⟨_, rfl, ?_⟩; replace BK479 := bb_ BK479 hb; replace HB := bs_ w hb; clear hb))
   go_meet
   case rel => exact ⟨_, (true), rf_, H', al_, ⟨bq_ BK479⟩, bw_⟩
  ·replace c7 := Bool.eq_false_iff.mpr c7
   subst c7
   rw [if_neg (show ¬ (false = true) by decide)] at H
   try dsimp only at H
   have H' := Aside0.mk H
   clear H
   replace hc479 := ce8_ BK479
   go_wp2_with (first | ((with_reducible refine gate_callee (f := 11) rfl ?_); (try refine ug_ (by rfl) ?_); refine goesA_ (some 19) Try.func11 #[.agg #[.int .i64 a0_0, .int .i64 a0_1, .int .i64 a0_2, .int .i64 a0_3, .int .i64 a0_4, .int .u64 a0_5, .int .i64 a0_6, .slice A0_7 l0_7.length c0_7], .slice A1 l1.length c1] ?_; (with_reducible refine (spigotref42_Great.calls a0_0 a0_1 a0_2 a0_3 a0_4 a0_5 a0_6 _ _ l0_7 _ _ l1 false _ ?side1 ?side2 ?side3 ?side4 A6.out).mono ?_); (case side1 => exact cs_ HR0_7 HB); (case side2 => exact HC0_7.out); (case side3 => exact cs_ HR1 HB); (case side4 => exact HC1.out); rintro e w11 ⟨rfl, hb⟩; refine ⟨_, rfl, ?_⟩; replace BK479 := bb_ BK479 hb; replace HB := bs_ w hb; clear hb))
   go_meet
   case rel => exact ⟨_, (decide ((l2.length : Int) > 150)), rf_, H', al_, ⟨bq_ BK479⟩, bw_⟩
 case rest =>
  clear HC4
  try clear c1
  try clear c2
  obtain ⟨kq, x24_3, rfl, HA, HJ3, BK479, HB⟩ := hcut
  cases kq with
  | zero => exact absurd HA.out (by simp [spigotlaw42_LeaseRuns.j0])
  | succ kj3 =>
   have H := HA.out
   clear HA
   simp only [spigotlaw42_LeaseRuns.j0] at H
   by_cases c12 : x24_3 = true
   ·subst c12
    replace H : (some true) = some r := by rw [if_pos rfl] at H; exact H
    obtain rfl := Option.some.inj H
    go_wp2
    go_ret
    exact fi_
   ·replace c12 := Bool.eq_false_iff.mpr c12
    subst c12
    rw [if_neg (show ¬ (false = true) by decide)] at H
    try dsimp only at H
    obtain ⟨⟨t481, t482, t483, t484, t485, t486, t487, t488, t491, t494⟩, A13, H⟩ := bo_ H
    try dsimp only at H
    obtain ⟨⟨t496, t497, t498, t499, t500, t501, t502, t503, t506, t509⟩, A14, H⟩ := bo_ H
    try dsimp only at H
    obtain ⟨⟨t511, t512⟩, A15, H⟩ := bo_ H
    try dsimp only at H
    obtain ⟨⟨t513, t514⟩, A16, H⟩ := bo_ H
    try dsimp only at H
    obtain ⟨t515, A17, H⟩ := bo_ H
    try dsimp only at H
    by_cases c18 : t515 = true
    ·subst c18
     rw [if_pos rfl] at H
     try dsimp only at H
     obtain ⟨t516, A19, H⟩ := bo_ H
     replace H : (if t516 = true then (if t494 = t509 then (if t511 = t513 then (some (t512 == t514)) else (none)) else (none)) else (none)) = some r := H
     by_cases c20 : t516 = true
     ·subst c20
      rw [if_pos rfl] at H
      try dsimp only at H
      by_cases c21 : t494 = t509
      rotate_left
      ·rw [if_neg c21] at H; exact absurd H (by simp)
      rw [if_pos c21] at H
      have c21b0 : (t494 == t509) = true := beq_iff_eq.mpr c21
      have c21b1 : (t494 != t509) = false := bne_eq_false_iff_eq.mpr c21
      clear c21
      by_cases c22 : t511 = t513
      rotate_left
      ·rw [if_neg c22] at H; exact absurd H (by simp)
      rw [if_pos c22] at H
      have c22b0 : (t511 == t513) = true := beq_iff_eq.mpr c22
      have c22b1 : (t511 != t513) = false := bne_eq_false_iff_eq.mpr c22
      clear c22
      obtain rfl := Option.some.inj H
      replace hc479 := ce8_ BK479
      go_wp2_with (first | ((with_reducible refine gate_callee (f := 16) rfl ?_); (try refine ug_ (by rfl) ?_); refine goesA_ (some 28) Try.func16 #[.agg #[.int .i64 a0_0, .int .i64 a0_1, .int .i64 a0_2, .int .i64 a0_3, .int .i64 a0_4, .int .u64 a0_5, .int .i64 a0_6, .slice A0_7 l0_7.length c0_7], .slice A1 l1.length c1] ?_; (with_reducible refine (lease_Run.calls kj3 a0_0 a0_1 a0_2 a0_3 a0_4 a0_5 a0_6 _ _ l0_7 _ _ l1 t481 t482 t483 t484 t485 t486 t487 t488 t491 t494 _ ?side1 ?side2 ?side3 ?side4 A13.out).mono ?_); (case side1 => exact cs_ HR0_7 HB); (case side2 => exact HC0_7.out); (case side3 => exact cs_ HR1 HB); (case side4 => exact HC1.out); rintro e w24 ⟨v489, v492, rfl, ho0, ho1, hb⟩; refine ⟨_, rfl, ?_⟩; have HO490 := Aside0.mk (Kd.R_lower ho0 (below_size bh_)); have HO493 := Aside0.mk (Kd.R_lower ho1 (below_size bh_)); replace BK479 := bb_ BK479 hb; replace HB := bs_ w hb; (try clear hb); (try clear hb2); (try clear hk); (try clear hi); (try clear ho0); (try clear ho1)) | ((with_reducible refine gate_dst (N := 7) rfl ?_); (try refine ug_ (by rfl) ?_); refine bx_ #[.int .i64 0, .int .i64 0, .int .i64 0, .int .i64 0, .int .i64 0, .int .u64 0, .int .i64 0, .slice none 0 0] 29 ?_; intro gb495 hg w25 BK495 hb; have GW495 := bz_ w hg; have NB479_495 := bn_ BK479 hg; have NB495_479 := bm_ BK479 hg; replace HO490 := rb_ HO490 hb; replace HO493 := rb_ HO493 hb; replace BK479 := bb_ BK479 hb; replace HB := bs_ w hb; clear hb hg; replace hn495_479 := NB495_479.out; replace hn479_495 := NB479_495.out; replace hc495 := ce8_ BK495; obtain ⟨Ao28, co28, eo28⟩ := Kd.R_slice HO490.out; subst eo28; replace hc479 := ce8_ BK479) | ((with_reducible refine gate_callee (f := 18) rfl ?_); (try refine ug_ (by rfl) ?_); refine goesA_ (some 35) Try.func18 #[.agg #[.int .i64 a0_0, .int .i64 a0_1, .int .i64 a0_2, .int .i64 a0_3, .int .i64 a0_4, .int .u64 a0_5, .int .i64 a0_6, .slice A0_7 l0_7.length c0_7], .slice A1 l1.length c1] ?_; (with_reducible refine (spigotref42_Run.calls kj3 a0_0 a0_1 a0_2 a0_3 a0_4 a0_5 a0_6 _ _ l0_7 _ _ l1 t496 t497 t498 t499 t500 t501 t502 t503 t506 t509 _ ?side1 ?side2 ?side3 ?side4 A14.out).mono ?_); (case side1 => exact Kd.C_below HR0_7.out bh_); (case side2 => exact HC0_7.out); (case side3 => exact Kd.C_below HR1.out bh_); (case side4 => exact HC1.out); rintro e w30 ⟨v504, v507, rfl, ho0, ho1, hb⟩; refine ⟨_, rfl, ?_⟩; have HO505 := Aside0.mk (Kd.R_lower (Kd.R_new' (Kd.R_new' ho0 (Kd.R_lt (by (with_reducible repeat (first | apply Kd.R_alloc | apply Kd.R_drewN | apply Kd.R_drew)); exact (Kd.R_mono (Kd.R_far (p := ⟨gb495, 7, none⟩) (Kd.R_far (p := ⟨gb495, 6, none⟩) (Kd.R_far (p := ⟨gb495, 5, none⟩) (Kd.R_far (p := ⟨gb495, 4, none⟩) (Kd.R_far (p := ⟨gb495, 3, none⟩) (Kd.R_far (p := ⟨gb495, 2, none⟩) (Kd.R_far (p := ⟨gb495, 1, none⟩) (Kd.R_far (p := ⟨gb495, 0, none⟩) (Kd.R_types HO490.out BK495.out (by decide)) (fun _ hk => hk.2) (.int .i64 t481)) (fun _ hk => hk.2) (.int .i64 t482)) (fun _ hk => hk.2) (.int .i64 t483)) (fun _ hk => hk.2) (.int .i64 t484)) (fun _ hk => hk.2) (.int .i64 t485)) (fun _ hk => hk.2) (.int .u64 t486)) (fun _ hk => hk.2) (.int .i64 t487)) (fun _ hk => hk.2) (.slice Ao28 t488.length co28)) (fun _ h_ => h_.1))))) (Kd.R_lt (by (with_reducible repeat (first | apply Kd.R_alloc | apply Kd.R_drewN | apply Kd.R_drew)); exact (Kd.R_mono (Kd.R_far (p := ⟨gb495, 7, none⟩) (Kd.R_far (p := ⟨gb495, 6, none⟩) (Kd.R_far (p := ⟨gb495, 5, none⟩) (Kd.R_far (p := ⟨gb495, 4, none⟩) (Kd.R_far (p := ⟨gb495, 3, none⟩) (Kd.R_far (p := ⟨gb495, 2, none⟩) (Kd.R_far (p := ⟨gb495, 1, none⟩) (Kd.R_far (p := ⟨gb495, 0, none⟩) (Kd.R_types HO493.out BK495.out (by decide)) (fun _ hk => hk.2) (.int .i64 t481)) (fun _ hk => hk.2) (.int .i64 t482)) (fun _ hk => hk.2) (.int .i64 t483)) (fun _ hk => hk.2) (.int .i64 t484)) (fun _ hk => hk.2) (.int .i64 t485)) (fun _ hk => hk.2) (.int .u64 t486)) (fun _ hk => hk.2) (.int .i64 t487)) (fun _ hk => hk.2) (.slice Ao28 t488.length co28)) (fun _ h_ => h_.1))))) (below_size bh_)); have HO508 := Aside0.mk (Kd.R_lower (Kd.R_new' (Kd.R_new' ho1 (Kd.R_lt (by (with_reducible repeat (first | apply Kd.R_alloc | apply Kd.R_drewN | apply Kd.R_drew)); exact (Kd.R_mono (Kd.R_far (p := ⟨gb495, 7, none⟩) (Kd.R_far (p := ⟨gb495, 6, none⟩) (Kd.R_far (p := ⟨gb495, 5, none⟩) (Kd.R_far (p := ⟨gb495, 4, none⟩) (Kd.R_far (p := ⟨gb495, 3, none⟩) (Kd.R_far (p := ⟨gb495, 2, none⟩) (Kd.R_far (p := ⟨gb495, 1, none⟩) (Kd.R_far (p := ⟨gb495, 0, none⟩) (Kd.R_types HO490.out BK495.out (by decide)) (fun _ hk => hk.2) (.int .i64 t481)) (fun _ hk => hk.2) (.int .i64 t482)) (fun _ hk => hk.2) (.int .i64 t483)) (fun _ hk => hk.2) (.int .i64 t484)) (fun _ hk => hk.2) (.int .i64 t485)) (fun _ hk => hk.2) (.int .u64 t486)) (fun _ hk => hk.2) (.int .i64 t487)) (fun _ hk => hk.2) (.slice Ao28 t488.length co28)) (fun _ h_ => h_.1))))) (Kd.R_lt (by (with_reducible repeat (first | apply Kd.R_alloc | apply Kd.R_drewN | apply Kd.R_drew)); exact (Kd.R_mono (Kd.R_far (p := ⟨gb495, 7, none⟩) (Kd.R_far (p := ⟨gb495, 6, none⟩) (Kd.R_far (p := ⟨gb495, 5, none⟩) (Kd.R_far (p := ⟨gb495, 4, none⟩) (Kd.R_far (p := ⟨gb495, 3, none⟩) (Kd.R_far (p := ⟨gb495, 2, none⟩) (Kd.R_far (p := ⟨gb495, 1, none⟩) (Kd.R_far (p := ⟨gb495, 0, none⟩) (Kd.R_types HO493.out BK495.out (by decide)) (fun _ hk => hk.2) (.int .i64 t481)) (fun _ hk => hk.2) (.int .i64 t482)) (fun _ hk => hk.2) (.int .i64 t483)) (fun _ hk => hk.2) (.int .i64 t484)) (fun _ hk => hk.2) (.int .i64 t485)) (fun _ hk => hk.2) (.int .u64 t486)) (fun _ hk => hk.2) (.int .i64 t487)) (fun _ hk => hk.2) (.slice Ao28 t488.length co28)) (fun _ h_ => h_.1))))) (below_size bh_)); replace HO490 := Aside0.mk (Kd.R_mono (Kd.R_told (Kd.R_told (Kd.R_old (by (with_reducible repeat (first | apply Kd.R_alloc | apply Kd.R_drewN | apply Kd.R_drew)); exact (Kd.R_mono (Kd.R_far (p := ⟨gb495, 7, none⟩) (Kd.R_far (p := ⟨gb495, 6, none⟩) (Kd.R_far (p := ⟨gb495, 5, none⟩) (Kd.R_far (p := ⟨gb495, 4, none⟩) (Kd.R_far (p := ⟨gb495, 3, none⟩) (Kd.R_far (p := ⟨gb495, 2, none⟩) (Kd.R_far (p := ⟨gb495, 1, none⟩) (Kd.R_far (p := ⟨gb495, 0, none⟩) (Kd.R_types HO490.out BK495.out (by decide)) (fun _ hk => hk.2) (.int .i64 t481)) (fun _ hk => hk.2) (.int .i64 t482)) (fun _ hk => hk.2) (.int .i64 t483)) (fun _ hk => hk.2) (.int .i64 t484)) (fun _ hk => hk.2) (.int .i64 t485)) (fun _ hk => hk.2) (.int .u64 t486)) (fun _ hk => hk.2) (.int .i64 t487)) (fun _ hk => hk.2) (.slice Ao28 t488.length co28)) (fun _ h_ => h_.1))) hb) (Kd.R_base ho0)) (Kd.R_base ho1)) (fun _ h_ => h_.1)); replace HO493 := Aside0.mk (Kd.R_mono (Kd.R_told (Kd.R_told (Kd.R_old (by (with_reducible repeat (first | apply Kd.R_alloc | apply Kd.R_drewN | apply Kd.R_drew)); exact (Kd.R_mono (Kd.R_far (p := ⟨gb495, 7, none⟩) (Kd.R_far (p := ⟨gb495, 6, none⟩) (Kd.R_far (p := ⟨gb495, 5, none⟩) (Kd.R_far (p := ⟨gb495, 4, none⟩) (Kd.R_far (p := ⟨gb495, 3, none⟩) (Kd.R_far (p := ⟨gb495, 2, none⟩) (Kd.R_far (p := ⟨gb495, 1, none⟩) (Kd.R_far (p := ⟨gb495, 0, none⟩) (Kd.R_types HO493.out BK495.out (by decide)) (fun _ hk => hk.2) (.int .i64 t481)) (fun _ hk => hk.2) (.int .i64 t482)) (fun _ hk => hk.2) (.int .i64 t483)) (fun _ hk => hk.2) (.int .i64 t484)) (fun _ hk => hk.2) (.int .i64 t485)) (fun _ hk => hk.2) (.int .u64 t486)) (fun _ hk => hk.2) (.int .i64 t487)) (fun _ hk => hk.2) (.slice Ao28 t488.length co28)) (fun _ h_ => h_.1))) hb) (Kd.R_base ho0)) (Kd.R_base ho1)) (fun _ h_ => h_.1)); replace BK479 := bf_ BK479 hb; replace BK495 := Aside0.mk (blk_below (g := gb495) (o := .cells #[.int .i64 t481, .int .i64 t482, .int .i64 t483, .int .i64 t484, .int .i64 t485, .int .u64 t486, .int .i64 t487, .slice Ao28 t488.length co28] 29 (0, 0)) (blk_put (cs := #[.int .i64 t481, .int .i64 t482, .int .i64 t483, .int .i64 t484, .int .i64 t485, .int .u64 t486, .int .i64 t487, .slice none 0 0]) (blk_put (cs := #[.int .i64 t481, .int .i64 t482, .int .i64 t483, .int .i64 t484, .int .i64 t485, .int .u64 t486, .int .i64 0, .slice none 0 0]) (blk_put (cs := #[.int .i64 t481, .int .i64 t482, .int .i64 t483, .int .i64 t484, .int .i64 t485, .int .u64 0, .int .i64 0, .slice none 0 0]) (blk_put (cs := #[.int .i64 t481, .int .i64 t482, .int .i64 t483, .int .i64 t484, .int .i64 0, .int .u64 0, .int .i64 0, .slice none 0 0]) (blk_put (cs := #[.int .i64 t481, .int .i64 t482, .int .i64 t483, .int .i64 0, .int .i64 0, .int .u64 0, .int .i64 0, .slice none 0 0]) (blk_put (cs := #[.int .i64 t481, .int .i64 t482, .int .i64 0, .int .i64 0, .int .i64 0, .int .u64 0, .int .i64 0, .slice none 0 0]) (blk_put (cs := #[.int .i64 t481, .int .i64 0, .int .i64 0, .int .i64 0, .int .i64 0, .int .u64 0, .int .i64 0, .slice none 0 0]) (blk_put (cs := #[.int .i64 0, .int .i64 0, .int .i64 0, .int .i64 0, .int .i64 0, .int .u64 0, .int .i64 0, .slice none 0 0]) (bq_ BK495) 0 _ rfl) 1 _ rfl) 2 _ rfl) 3 _ rfl) 4 _ rfl) 5 _ rfl) 6 _ rfl) 7 _ rfl) hb); replace HB := bs_ w hb; (try clear hb); (try clear hb2); (try clear hk); (try clear hi); (try clear ho0); (try clear ho1)) | ((with_reducible refine gate_dst (N := 10) rfl ?_); (try refine ug_ (by rfl) ?_); refine bx_ #[.int .i64 0, .int .i64 0, .int .i64 0, .int .i64 0, .int .i64 0, .int .u64 0, .int .i64 0, .slice none 0 0] 29 ?_; intro gb510 hg w31 BK510 hb; have GW510 := bz_ w hg; have NB479_510 := bn_ BK479 hg; have NB510_479 := bm_ BK479 hg; have NB495_510 := bn_ BK495 hg; have NB510_495 := bm_ BK495 hg; replace HO490 := rb_ HO490 hb; replace HO493 := rb_ HO493 hb; replace HO505 := rb_ HO505 hb; replace HO508 := rb_ HO508 hb; replace BK479 := bb_ BK479 hb; replace BK495 := bb_ BK495 hb; replace HB := bs_ w hb; clear hb hg; replace hn510_479 := NB510_479.out; replace hn479_510 := NB479_510.out; replace hn510_495 := NB510_495.out; replace hn495_510 := NB495_510.out; replace hc510 := ce8_ BK510; obtain ⟨Ao35, co35, eo35⟩ := Kd.R_slice HO505.out; subst eo35) | ((with_reducible refine gate_callee (f := 19) rfl ?_); (try refine ug_ (by rfl) ?_); refine goesA_ (some 42) Try.func19 #[.slice A1 l1.length c1, .slice A2 l2.length c2] ?_; (with_reducible refine (lease_Spent.calls kj3 _ _ l1 _ _ l2 t511 t512 _ ?side1 ?side2 ?side3 ?side4 A15.out).mono ?_); (case side1 => exact Kd.C_below HR1.out bh_); (case side2 => exact HC1.out); (case side3 => exact Kd.C_below HR2.out bh_); (case side4 => exact HC2.out); rintro e w36 ⟨rfl, hb⟩; refine ⟨_, rfl, ?_⟩; replace HO490 := Aside0.mk (Kd.R_below (by (with_reducible repeat (first | apply Kd.R_alloc | apply Kd.R_drewN | apply Kd.R_drew)); exact (Kd.R_mono (Kd.R_far (p := ⟨gb510, 7, none⟩) (Kd.R_far (p := ⟨gb510, 6, none⟩) (Kd.R_far (p := ⟨gb510, 5, none⟩) (Kd.R_far (p := ⟨gb510, 4, none⟩) (Kd.R_far (p := ⟨gb510, 3, none⟩) (Kd.R_far (p := ⟨gb510, 2, none⟩) (Kd.R_far (p := ⟨gb510, 1, none⟩) (Kd.R_far (p := ⟨gb510, 0, none⟩) (Kd.R_types HO490.out BK510.out (by decide)) (fun _ hk => hk.2) (.int .i64 t496)) (fun _ hk => hk.2) (.int .i64 t497)) (fun _ hk => hk.2) (.int .i64 t498)) (fun _ hk => hk.2) (.int .i64 t499)) (fun _ hk => hk.2) (.int .i64 t500)) (fun _ hk => hk.2) (.int .u64 t501)) (fun _ hk => hk.2) (.int .i64 t502)) (fun _ hk => hk.2) (.slice Ao35 t503.length co35)) (fun _ h_ => h_.1))) hb); replace HO493 := Aside0.mk (Kd.R_below (by (with_reducible repeat (first | apply Kd.R_alloc | apply Kd.R_drewN | apply Kd.R_drew)); exact (Kd.R_mono (Kd.R_far (p := ⟨gb510, 7, none⟩) (Kd.R_far (p := ⟨gb510, 6, none⟩) (Kd.R_far (p := ⟨gb510, 5, none⟩) (Kd.R_far (p := ⟨gb510, 4, none⟩) (Kd.R_far (p := ⟨gb510, 3, none⟩) (Kd.R_far (p := ⟨gb510, 2, none⟩) (Kd.R_far (p := ⟨gb510, 1, none⟩) (Kd.R_far (p := ⟨gb510, 0, none⟩) (Kd.R_types HO493.out BK510.out (by decide)) (fun _ hk => hk.2) (.int .i64 t496)) (fun _ hk => hk.2) (.int .i64 t497)) (fun _ hk => hk.2) (.int .i64 t498)) (fun _ hk => hk.2) (.int .i64 t499)) (fun _ hk => hk.2) (.int .i64 t500)) (fun _ hk => hk.2) (.int .u64 t501)) (fun _ hk => hk.2) (.int .i64 t502)) (fun _ hk => hk.2) (.slice Ao35 t503.length co35)) (fun _ h_ => h_.1))) hb); replace HO505 := Aside0.mk (Kd.R_below (by (with_reducible repeat (first | apply Kd.R_alloc | apply Kd.R_drewN | apply Kd.R_drew)); exact (Kd.R_mono (Kd.R_far (p := ⟨gb510, 7, none⟩) (Kd.R_far (p := ⟨gb510, 6, none⟩) (Kd.R_far (p := ⟨gb510, 5, none⟩) (Kd.R_far (p := ⟨gb510, 4, none⟩) (Kd.R_far (p := ⟨gb510, 3, none⟩) (Kd.R_far (p := ⟨gb510, 2, none⟩) (Kd.R_far (p := ⟨gb510, 1, none⟩) (Kd.R_far (p := ⟨gb510, 0, none⟩) (Kd.R_types HO505.out BK510.out (by decide)) (fun _ hk => hk.2) (.int .i64 t496)) (fun _ hk => hk.2) (.int .i64 t497)) (fun _ hk => hk.2) (.int .i64 t498)) (fun _ hk => hk.2) (.int .i64 t499)) (fun _ hk => hk.2) (.int .i64 t500)) (fun _ hk => hk.2) (.int .u64 t501)) (fun _ hk => hk.2) (.int .i64 t502)) (fun _ hk => hk.2) (.slice Ao35 t503.length co35)) (fun _ h_ => h_.1))) hb); replace HO508 := Aside0.mk (Kd.R_below (by (with_reducible repeat (first | apply Kd.R_alloc | apply Kd.R_drewN | apply Kd.R_drew)); exact (Kd.R_mono (Kd.R_far (p := ⟨gb510, 7, none⟩) (Kd.R_far (p := ⟨gb510, 6, none⟩) (Kd.R_far (p := ⟨gb510, 5, none⟩) (Kd.R_far (p := ⟨gb510, 4, none⟩) (Kd.R_far (p := ⟨gb510, 3, none⟩) (Kd.R_far (p := ⟨gb510, 2, none⟩) (Kd.R_far (p := ⟨gb510, 1, none⟩) (Kd.R_far (p := ⟨gb510, 0, none⟩) (Kd.R_types HO508.out BK510.out (by decide)) (fun _ hk => hk.2) (.int .i64 t496)) (fun _ hk => hk.2) (.int .i64 t497)) (fun _ hk => hk.2) (.int .i64 t498)) (fun _ hk => hk.2) (.int .i64 t499)) (fun _ hk => hk.2) (.int .i64 t500)) (fun _ hk => hk.2) (.int .u64 t501)) (fun _ hk => hk.2) (.int .i64 t502)) (fun _ hk => hk.2) (.slice Ao35 t503.length co35)) (fun _ h_ => h_.1))) hb); replace BK479 := bf_ BK479 hb; replace BK495 := bf_ BK495 hb; replace BK510 := Aside0.mk (blk_below (g := gb510) (o := .cells #[.int .i64 t496, .int .i64 t497, .int .i64 t498, .int .i64 t499, .int .i64 t500, .int .u64 t501, .int .i64 t502, .slice Ao35 t503.length co35] 29 (0, 0)) (blk_put (cs := #[.int .i64 t496, .int .i64 t497, .int .i64 t498, .int .i64 t499, .int .i64 t500, .int .u64 t501, .int .i64 t502, .slice none 0 0]) (blk_put (cs := #[.int .i64 t496, .int .i64 t497, .int .i64 t498, .int .i64 t499, .int .i64 t500, .int .u64 t501, .int .i64 0, .slice none 0 0]) (blk_put (cs := #[.int .i64 t496, .int .i64 t497, .int .i64 t498, .int .i64 t499, .int .i64 t500, .int .u64 0, .int .i64 0, .slice none 0 0]) (blk_put (cs := #[.int .i64 t496, .int .i64 t497, .int .i64 t498, .int .i64 t499, .int .i64 0, .int .u64 0, .int .i64 0, .slice none 0 0]) (blk_put (cs := #[.int .i64 t496, .int .i64 t497, .int .i64 t498, .int .i64 0, .int .i64 0, .int .u64 0, .int .i64 0, .slice none 0 0]) (blk_put (cs := #[.int .i64 t496, .int .i64 t497, .int .i64 0, .int .i64 0, .int .i64 0, .int .u64 0, .int .i64 0, .slice none 0 0]) (blk_put (cs := #[.int .i64 t496, .int .i64 0, .int .i64 0, .int .i64 0, .int .i64 0, .int .u64 0, .int .i64 0, .slice none 0 0]) (blk_put (cs := #[.int .i64 0, .int .i64 0, .int .i64 0, .int .i64 0, .int .i64 0, .int .u64 0, .int .i64 0, .slice none 0 0]) (bq_ BK510) 0 _ rfl) 1 _ rfl) 2 _ rfl) 3 _ rfl) 4 _ rfl) 5 _ rfl) 6 _ rfl) 7 _ rfl) hb); replace HB := bs_ w hb; clear hb) | ((with_reducible refine gate_callee (f := 20) rfl ?_); (try refine ug_ (by rfl) ?_); refine goesA_ (some 48) Try.func20 #[.slice A1 l1.length c1, .slice A2 l2.length c2] ?_; (with_reducible refine (spigotref42_Spent.calls kj3 _ _ l1 _ _ l2 t513 t514 _ ?side1 ?side2 ?side3 ?side4 A16.out).mono ?_); (case side1 => exact cs_ HR1 HB); (case side2 => exact HC1.out); (case side3 => exact cs_ HR2 HB); (case side4 => exact HC2.out); rintro e w37 ⟨rfl, hb⟩; refine ⟨_, rfl, ?_⟩; replace HO490 := rb_ HO490 hb; replace HO493 := rb_ HO493 hb; replace HO505 := rb_ HO505 hb; replace HO508 := rb_ HO508 hb; replace BK479 := bb_ BK479 hb; replace BK495 := bb_ BK495 hb; replace BK510 := bb_ BK510 hb; replace HB := bs_ w hb; clear hb; replace hc495 := ce8_ BK495; replace hc510 := ce8_ BK510) | ((with_reducible refine gate_callee (f := 17) rfl ?_); (try refine ug_ (by rfl) ?_); refine goesA_ (some 53) Try.func17 #[.agg #[.int .i64 t481, .int .i64 t482, .int .i64 t483, .int .i64 t484, .int .i64 t485, .int .u64 t486, .int .i64 t487, .slice Ao28 t488.length co28], .agg #[.int .i64 t496, .int .i64 t497, .int .i64 t498, .int .i64 t499, .int .i64 t500, .int .u64 t501, .int .i64 t502, .slice Ao35 t503.length co35]] ?_; (with_reducible refine (spigotref42_Same.calls kj3 t481 t482 t483 t484 t485 t486 t487 _ _ t488 t496 t497 t498 t499 t500 t501 t502 _ _ t503 true _ ?side1 ?side2 ?side3 ?side4 A17.out).mono ?_); (case side1 => exact cr_ HO490); (case side2 => exact (Kd.R_reads' HO490.out).2.1); (case side3 => exact cr_ HO505); (case side4 => exact (Kd.R_reads' HO505.out).2.1); rintro e w40 ⟨rfl, hb⟩; refine ⟨_, rfl, ?_⟩; replace HO490 := rb_ HO490 hb; replace HO493 := rb_ HO493 hb; replace HO505 := rb_ HO505 hb; replace HO508 := rb_ HO508 hb; replace BK479 := bb_ BK479 hb; replace BK495 := bb_ BK495 hb; replace BK510 := bb_ BK510 hb; replace HB := bs_ w hb; clear hb; obtain ⟨Ao41, co41, eo41⟩ := Kd.R_slice HO493.out; subst eo41; obtain ⟨Ao42, co42, eo42⟩ := Kd.R_slice HO508.out; subst eo42) | (go_at_call 21; (with_reducible refine (spigotref42_SameLongs.calls kj3 _ _ t491 _ _ t506 true _ ?side1 ?side2 ?side3 ?side4 A19.out).mono ?_); (case side1 => exact cr_ HO493); (case side2 => exact (Kd.R_reads' HO493.out).2.1); (case side3 => exact cr_ HO508); (case side4 => exact (Kd.R_reads' HO508.out).2.1); rintro e w' ⟨rfl, ⟨nd, rfl⟩⟩))
      go_ret
      exact fi_
     ·replace c20 := Bool.eq_false_iff.mpr c20
      subst c20
      replace H : (none) = some r := by rw [if_neg (show ¬ (false = true) by decide)] at H; exact H
      exact absurd H (by simp)
    ·replace c18 := Bool.eq_false_iff.mpr c18
     subst c18
     replace H : (none) = some r := by rw [if_neg (show ¬ (false = true) by decide)] at H; exact H
     exact absurd H (by simp)

end Go.Proofs.Ytbfdpodlnijeoaa.X
