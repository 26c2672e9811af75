-- written by xprint.py, a program of this session over the kit's print
import Derived.Test.YtbfdpodlnijeoaaX0
import Derived.Test.YtbfdpodlnijeoaaX3
namespace Go.Proofs.Ytbfdpodlnijeoaa.X
open Go.RowKit Go.Proofs.YtbfdpodlnijeoaaW.PrintWords Go.Proofs.YtbfdpodlnijeoaaW.PrintLast Go.Proofs.YtbfdpodlnijeoaaW.PrintMore
attribute [local go_sem] max2_int min2_int max_two min_two max_three min_three max_four min_four   -- for this text's walks alone
set_option linter.unusedVariables false
set_option linter.unusedSimpArgs false

/-! ### lease_read: function 30 -/
attribute [local go_sem] ifv_mk1 ifv_mk2 ifv_mk3 ifv_mk4
def lease_read.j0 : Nat → Bool → Int → Int → Int → Int → Option (Int × Int × Int)
  | 0, _, _, _, _, _ => none
  | k + 1, x25, x111000, x111001, x111002, x111003 => if x25 = true then (some (0, 0, 0)) else (if x111000 = 1 then (some (1, x111001, 0)) else (if x111000 = 2 then (some (2, x111001, x111003)) else (if x111000 = 3 then (some (3, x111001, 0)) else (if x111000 = 4 then (some (4, x111001, 0)) else (some (0, 0, 0))))))
def lease_read.f (k : Nat) (a0_0 : Int) (a0_1 : Int) (a0_2 : Int) (a0_3 : Int) : Option (Int × Int × Int) := if a0_1 < 0 then (lease_read.j0 k true a0_0 a0_1 a0_2 a0_3) else (if a0_3 < 0 then (lease_read.j0 k true a0_0 a0_1 a0_2 a0_3) else (if a0_3 > 1000000000 then (lease_read.j0 k true a0_0 a0_1 a0_2 a0_3) else (if a0_3 > 0 then (lease_read.j0 k (a0_0 != 2) a0_0 a0_1 a0_2 a0_3) else (lease_read.j0 k false a0_0 a0_1 a0_2 a0_3))))
theorem lease_read.mono_l : ∀ k, (∀ y0 y1 y2 y3 y4, LeO (lease_read.j0 k y0 y1 y2 y3 y4) (lease_read.j0 (k + 1) y0 y1 y2 y3 y4))
  | 0 => fun _ _ _ _ _ r h => by simp [lease_read.j0] at h
  | k + 1 => by
    have ih0 := lease_read.mono_l k
    · intro y0 y1 y2 y3 y4
      unfold lease_read.j0
      repeat' first
      | (with_reducible exact ih0 _ _ _ _ _)
      | (with_reducible exact LeO.refl _)
      | (with_reducible exact LeO.none _)
      | (with_reducible refine LeO.ite ?_ ?_)
      | (with_reducible refine LeO.bind ?_ (fun _ => ?_))
      | exact ih0 _ _ _ _ _
      | exact LeO.none _
      | refine LeO.ite ?_ ?_
      | refine LeO.bind ?_ (fun _ => ?_)
theorem lease_read.mono : ∀ a0 a1 a2 a3 k, LeO (lease_read.f k a0 a1 a2 a3) (lease_read.f (k + 1) a0 a1 a2 a3) := by
  intro a0 a1 a2 a3 k
  have ih0 := lease_read.mono_l k
  unfold lease_read.f
  repeat' first
      | (with_reducible exact ih0 _ _ _ _ _)
      | (with_reducible exact LeO.refl _)
      | (with_reducible exact LeO.none _)
      | (with_reducible refine LeO.ite ?_ ?_)
      | (with_reducible refine LeO.bind ?_ (fun _ => ?_))
      | exact ih0 _ _ _ _ _
      | exact LeO.none _
      | refine LeO.ite ?_ ?_
      | refine LeO.bind ?_ (fun _ => ?_)
set_option maxHeartbeats 8000000 in
set_option maxRecDepth 100000 in
theorem lease_read.calls (k : Nat) (a0_0 : Int) (a0_1 : Int) (a0_2 : Int) (a0_3 : Int) (r1 : Int) (r2 : Int) (r3 : Int) (w : World) (h : lease_read.f k a0_0 a0_1 a0_2 a0_3 = some (r1, r2, r3)) :
  Calls Try.prog 30 #[.agg #[.int .u8 a0_0, .int .i64 a0_1, .int .u64 a0_2, .int .i64 a0_3]] w fun e w' => e = .returned (ifv r1 r2 r3) ∧ Below w.heap.size w w' := by
 have hu31 := Try.underlying31
 have hu23 := Try.underlying23
 have hu74 := Try.underlying74
 have hu76 := Try.underlying76
 have hu77 := Try.underlying77
 have hu78 := Try.underlying78
 have HB := Aside0.mk (Below.refl w.heap.size w)
 have H : (if a0_1 < 0 then (lease_read.j0 k true a0_0 a0_1 a0_2 a0_3) else (if a0_3 < 0 then (lease_read.j0 k true a0_0 a0_1 a0_2 a0_3) else (if a0_3 > 1000000000 then (lease_read.j0 k true a0_0 a0_1 a0_2 a0_3) else (if a0_3 > 0 then (lease_read.j0 k (a0_0 != 2) a0_0 a0_1 a0_2 a0_3) else (lease_read.j0 k false a0_0 a0_1 a0_2 a0_3))))) = some (r1, r2, r3) := h
 clear h
 have HC2 := Aside0.mk H
 clear H
 go_enter Try.func30, Try.ntmps30
 go_upto_region 1 with (first | ((with_reducible refine gate_dst (N := 1) rfl ?_); (try refine ug_ (by rfl) ?_); refine bx_ #[.int .u8 a0_0, .int .i64 a0_1, .int .u64 a0_2, .int .i64 a0_3] 31 ?_; intro gb110 hg w3 BK110 hb; have GW110 := bz_ w hg; replace HB := bs_ w hb; clear hb hg))
 (try simp only [Act.put, List.setIfInBounds_toArray, List.set_cons_zero, List.set_cons_succ])
 go_cut [25] (fun v25 wc => ∃ (kq : Nat) (x25_1 : Bool), v25 = .bool x25_1 ∧ Aside0 (lease_read.j0 kq x25_1 a0_0 a0_1 a0_2 a0_3 = some (r1, r2, r3)) ∧ Aside0 (kq ≤ k) ∧ Aside0 (wc.heap[gb110]? = some (.cells #[.int .u8 a0_0, .int .i64 a0_1, .int .u64 a0_2, .int .i64 a0_3] 31 (0, 0))) ∧ Aside0 (Below w.heap.size w wc))
 case first =>
  have H := HC2.out
  clear HC2
  by_cases c4 : a0_1 < 0
  ·rw [if_pos c4] at H
   have c4b0 : decide (a0_1 < 0) = true := decide_eq_true c4
   clear c4
   (first | rw [c4b0] | (simp only [i64_w, i32_w]; rw [c4b0]) | skip)
   have H' := Aside0.mk H
   clear H
   replace hc110 := ce4_ BK110
   go_wp2
   go_meet
   case rel => exact ⟨_, (true), rf_, H', al_, ⟨bq_ BK110⟩, bw_⟩
  ·rw [if_neg c4] at H
   have c4b0 : decide (a0_1 < 0) = false := decide_eq_false c4
   clear c4
   (first | rw [c4b0] | (simp only [i64_w, i32_w]; rw [c4b0]) | skip)
   by_cases c6 : a0_3 < 0
   ·rw [if_pos c6] at H
    have c6b0 : decide (a0_3 < 0) = true := decide_eq_true c6
    clear c6
    have H' := Aside0.mk H
    clear H
    replace hc110 := ce4_ BK110
    go_wp2
    go_meet
    case rel => exact ⟨_, (true), rf_, H', al_, ⟨bq_ BK110⟩, bw_⟩
   ·rw [if_neg c6] at H
    have c6b0 : decide (a0_3 < 0) = false := decide_eq_false c6
    clear c6
    by_cases c8 : a0_3 > 1000000000
    ·rw [if_pos c8] at H
     have c8b0 : decide (1000000000 < a0_3) = true := decide_eq_true c8
     clear c8
     have H' := Aside0.mk H
     clear H
     replace hc110 := ce4_ BK110
     go_wp2
     go_meet
     case rel => exact ⟨_, (true), rf_, H', al_, ⟨bq_ BK110⟩, bw_⟩
    ·rw [if_neg c8] at H
     have c8b0 : decide (1000000000 < a0_3) = false := decide_eq_false c8
     clear c8
     by_cases c10 : a0_3 > 0
     ·rw [if_pos c10] at H
      have c10b0 : decide (0 < a0_3) = true := decide_eq_true c10
      clear c10
      have H' := Aside0.mk H
      clear H
      replace hc110 := ce4_ BK110
      go_wp2
      go_meet
      case rel => exact ⟨_, ((a0_0 != 2)), rf_, H', al_, ⟨bq_ BK110⟩, bw_⟩
     ·rw [if_neg c10] at H
      have c10b0 : decide (0 < a0_3) = false := decide_eq_false c10
      clear c10
      have H' := Aside0.mk H
      clear H
      replace hc110 := ce4_ BK110
      go_wp2
      go_meet
      case rel => exact ⟨_, (false), rf_, H', al_, ⟨bq_ BK110⟩, bw_⟩
 case rest =>
  clear HC2
  obtain ⟨kq, x25_1, rfl, HA, HJ1, BK110, HB⟩ := hcut
  cases kq with
  | zero => exact absurd HA.out (by simp [lease_read.j0])
  | succ kj1 =>
   have H := HA.out
   clear HA
   simp only [lease_read.j0] at H
   by_cases c13 : x25_1 = true
   ·subst c13
    replace H : (some (0, 0, 0)) = some (r1, r2, r3) := by rw [if_pos rfl] at H; exact H
    simp only [Option.some.injEq, Prod.mk.injEq] at H
    obtain ⟨rfl, rfl, rfl⟩ := H
    go_wp2
    go_ret
    exact fi_
   ·replace c13 := Bool.eq_false_iff.mpr c13
    subst c13
    rw [if_neg (show ¬ (false = true) by decide)] at H
    try dsimp only at H
    by_cases c14 : a0_0 = 1
    ·rw [if_pos c14] at H
     have c14b0 : (a0_0 == 1) = true := beq_iff_eq.mpr c14
     have c14b1 : (a0_0 != 1) = false := bne_eq_false_iff_eq.mpr c14
     clear c14
     simp only [Option.some.injEq, Prod.mk.injEq] at H
     obtain ⟨rfl, rfl, rfl⟩ := H
     replace hc110 := ce4_ BK110
     go_wp2
     go_ret
     exact fi_
    ·rw [if_neg c14] at H
     have c14b0 : (a0_0 == 1) = false := beq_eq_false_iff_ne.mpr c14
     have c14b1 : (a0_0 != 1) = true := bne_iff_ne.mpr c14
     by_cases c16 : a0_0 = 2
     ·rw [if_pos c16] at H
      have c16b0 : (a0_0 == 2) = true := beq_iff_eq.mpr c16
      have c16b1 : (a0_0 != 2) = false := bne_eq_false_iff_eq.mpr c16
      clear c16
      simp only [Option.some.injEq, Prod.mk.injEq] at H
      obtain ⟨rfl, rfl, rfl⟩ := H
      replace hc110 := ce4_ BK110
      go_wp2
      go_ret
      exact fi_
     ·rw [if_neg c16] at H
      have c16b0 : (a0_0 == 2) = false := beq_eq_false_iff_ne.mpr c16
      have c16b1 : (a0_0 != 2) = true := bne_iff_ne.mpr c16
      by_cases c18 : a0_0 = 3
      ·rw [if_pos c18] at H
       have c18b0 : (a0_0 == 3) = true := beq_iff_eq.mpr c18
       have c18b1 : (a0_0 != 3) = false := bne_eq_false_iff_eq.mpr c18
       clear c18
       simp only [Option.some.injEq, Prod.mk.injEq] at H
       obtain ⟨rfl, rfl, rfl⟩ := H
       replace hc110 := ce4_ BK110
       go_wp2
       go_ret
       exact fi_
      ·rw [if_neg c18] at H
       have c18b0 : (a0_0 == 3) = false := beq_eq_false_iff_ne.mpr c18
       have c18b1 : (a0_0 != 3) = true := bne_iff_ne.mpr c18
       by_cases c20 : a0_0 = 4
       ·rw [if_pos c20] at H
        have c20b0 : (a0_0 == 4) = true := beq_iff_eq.mpr c20
        have c20b1 : (a0_0 != 4) = false := bne_eq_false_iff_eq.mpr c20
        clear c20
        simp only [Option.some.injEq, Prod.mk.injEq] at H
        obtain ⟨rfl, rfl, rfl⟩ := H
        replace hc110 := ce4_ BK110
        go_wp2
        go_ret
        exact fi_
       ·rw [if_neg c20] at H
        have c20b0 : (a0_0 == 4) = false := beq_eq_false_iff_ne.mpr c20
        have c20b1 : (a0_0 != 4) = true := bne_iff_ne.mpr c20
        simp only [Option.some.injEq, Prod.mk.injEq] at H
        obtain ⟨rfl, rfl, rfl⟩ := H
        replace hc110 := ce4_ BK110
        go_wp2
        go_ret
        exact fi_

/-! ### bits_Add64: function 48 -/
def bits_Add64.f (a0 : Int) (a1 : Int) (a2 : Int) : Option (Int × Int) := if 0 ≤ a0 ∧ 0 ≤ a1 ∧ 0 ≤ a2 ∧ a2 ≤ 1 then some ((a0 + a1 + a2) % 18446744073709551616, (a0 + a1 + a2) / 18446744073709551616) else none
theorem bits_Add64.calls (a0 : Int) (a1 : Int) (a2 : Int) (r1 : Int) (r2 : Int) (w : World) (h : bits_Add64.f a0 a1 a2 = some (r1, r2)) :
    CallsX Try.prog 48 #[.int .u64 a0, .int .u64 a1, .int .u64 a2] w fun e w' => e = .returned (.tuple #[.int .u64 r1, .int .u64 r2]) ∧ Drawn0 w w' := by
  unfold bits_Add64.f at h
  split at h
  case isFalse => cases h
  rename_i hu
  obtain ⟨h0, h1, h2, h3⟩ := hu
  simp only [Option.some.injEq, Prod.mk.injEq] at h
  obtain ⟨rfl, rfl⟩ := h
  refine ⟨_, w, ?_, rfl, Drawn0.refl _⟩
  rw [run_callFunc_extern Try.func48 (by kernel_rfl) (by kernel_rfl) (by kernel_rfl) (e := add64Entry) (by kernel_rfl), run_add64 a0 a1 a2 h0 h1 h2 h3]
  rfl

/-! ### wide_Add: function 34 -/
def wide_Add.f (a0_0 : Int) (a0_1 : Int) (a1_0 : Int) (a1_1 : Int) : Option (Int × Int × Int) := (bits_Add64.f a0_1 a1_1 0).bind fun bt114 => ((bits_Add64.f a0_0 a1_0 bt114.2).bind fun bt116 => (if bt116.2 = 0 then (some (bt116.1, bt114.1, 0)) else (some (0, 0, 16))))
set_option maxHeartbeats 8000000 in
set_option maxRecDepth 100000 in
theorem wide_Add.calls (a0_0 : Int) (a0_1 : Int) (a1_0 : Int) (a1_1 : Int) (r1 : Int) (r2 : Int) (r3 : Int) (w : World) (h : wide_Add.f a0_0 a0_1 a1_0 a1_1 = some (r1, r2, r3)) :
  Calls Try.prog 34 #[.agg #[.int .u64 a0_0, .int .u64 a0_1], .agg #[.int .u64 a1_0, .int .u64 a1_1]] w fun e w' => e = .returned (.tuple #[.agg #[.int .u64 r1, .int .u64 r2], .int .i64 r3]) ∧ Below w.heap.size w w' := by
 have hu82 := Try.underlying82
 have HB := Aside0.mk (Below.refl w.heap.size w)
 have H : ((bits_Add64.f a0_1 a1_1 0).bind fun bt114 => ((bits_Add64.f a0_0 a1_0 bt114.2).bind fun bt116 => (if bt116.2 = 0 then (some (bt116.1, bt114.1, 0)) else (some (0, 0, 16))))) = some (r1, r2, r3) := h
 clear h
 have H0_ := bo_ H; clear H; obtain ⟨⟨t114, t115⟩, A3, H⟩ := H0_
 replace H : ((bits_Add64.f a0_0 a1_0 t115).bind fun bt116 => (if bt116.2 = 0 then (some (bt116.1, t114, 0)) else (some (0, 0, 16)))) = some (r1, r2, r3) := H
 have H0_ := bo_ H; clear H; obtain ⟨⟨t116, t117⟩, A4, H⟩ := H0_
 replace H : (if t117 = 0 then (some (t116, t114, 0)) else (some (0, 0, 16))) = some (r1, r2, r3) := H
 by_cases c5 : t117 = 0
 ·rw [if_pos c5] at H
  have c5b0 : (t117 == 0) = true := beq_iff_eq.mpr c5
  have c5b1 : (t117 != 0) = false := bne_eq_false_iff_eq.mpr c5
  clear c5
  simp only [Option.some.injEq, Prod.mk.injEq] at H
  obtain ⟨rfl, rfl, rfl⟩ := H
  go_enter Try.func34, Try.ntmps34
  go_wp2_with (first | ((with_reducible refine gate_dst (N := 2) rfl ?_); refine bx_ #[.int .u64 a0_0, .int .u64 a0_1] 82 ?_; intro gb111 hg w6 BK111 hb; have GW111 := bz_ w hg; have GE111 := GW111; replace HB := bs_ w hb; clear hb hg) | ((with_reducible refine gate_dst (N := 3) rfl ?_); refine bx_ #[.int .u64 a1_0, .int .u64 a1_1] 82 ?_; intro gb112 hg w7 BK112 hb; have GW112 := bz_ w hg; have GE112 := GW112; have NB111_112 := bn_ BK111 hg; have NB112_111 := bm_ BK111 hg; replace BK111 := bb_ BK111 hb; replace HB := bs_ w hb; clear hb hg) | ((with_reducible refine gate_dst (N := 4) rfl ?_); refine bx_ #[.int .u64 0, .int .u64 0] 82 ?_; intro gb113 hg w8 BK113 hb; have GW113 := bz_ w hg; have GE113 := GW113; have NB111_113 := bn_ BK111 hg; have NB113_111 := bm_ BK111 hg; have NB112_113 := bn_ BK112 hg; have NB113_112 := bm_ BK112 hg; replace BK111 := bb_ BK111 hb; replace BK112 := bb_ BK112 hb; replace HB := bs_ w hb; clear hb hg; replace hn111_112 := NB111_112.out; replace hn112_111 := NB112_111.out; replace hn111_113 := NB111_113.out; replace hn113_111 := NB113_111.out; replace hc111 := ce2_ BK111; replace hn112_113 := NB112_113.out; replace hn113_112 := NB113_112.out; replace hc112 := ce2_ BK112) | ((with_reducible refine gate_callee (f := 48) rfl ?_); refine goesXL_ (some 15) rfl rfl #[.int .u64 a0_1, .int .u64 a1_1, .int .u64 0] rfl (by (try simp only [List.map_toArray, List.map_cons, List.map_nil]); first | done | rfl | (simp only [List.length_drop, List.length_take]; rfl)) ?_; (with_reducible refine (bits_Add64.calls a0_1 a1_1 0 t114 t115 _ A3.out).mono ?_); rintro e w' ⟨rfl, ⟨nd, rfl⟩⟩; refine ⟨_, rfl, ?_⟩; (try ((first | generalize hq_ : World.drewN w8 _ = w8 | (rw [drewN_self w8]; generalize hq_ : World.drewN w8 _ = w8)); replace BK111 : Aside0 (w8.heap[gb111]? = some (.cells #[.int .u64 a0_0, .int .u64 a0_1] 82 (0, 0))) := ⟨by rw [← hq_]; exact (bq_ BK111)⟩; replace BK112 : Aside0 (w8.heap[gb112]? = some (.cells #[.int .u64 a1_0, .int .u64 a1_1] 82 (0, 0))) := ⟨by rw [← hq_]; exact (bq_ BK112)⟩; replace BK113 : Aside0 (w8.heap[gb113]? = some (.cells #[.int .u64 0, .int .u64 0] 82 (0, 0))) := ⟨by rw [← hq_]; exact (bq_ BK113)⟩; replace HB : Aside0 (Below w.heap.size w w8) := ⟨by rw [← hq_]; exact bh_⟩; clear hq_)); replace hc111 := ce2_ BK111; replace hc112 := ce2_ BK112) | ((with_reducible refine gate_callee (f := 48) rfl ?_); refine goesXL_ (some 24) rfl rfl #[.int .u64 a0_0, .int .u64 a1_0, .int .u64 t115] rfl (by (try simp only [List.map_toArray, List.map_cons, List.map_nil]); first | done | rfl | (simp only [List.length_drop, List.length_take]; rfl)) ?_; (with_reducible refine (bits_Add64.calls a0_0 a1_0 t115 t116 t117 _ A4.out).mono ?_); rintro e w' ⟨rfl, ⟨nd, rfl⟩⟩; refine ⟨_, rfl, ?_⟩; (try ((first | generalize hq_ : World.drewN w8 _ = w8 | (rw [drewN_self w8]; generalize hq_ : World.drewN w8 _ = w8)); replace BK111 : Aside0 (w8.heap[gb111]? = some (.cells #[.int .u64 a0_0, .int .u64 a0_1] 82 (0, 0))) := ⟨by rw [← hq_]; exact (bq_ BK111)⟩; replace BK112 : Aside0 (w8.heap[gb112]? = some (.cells #[.int .u64 a1_0, .int .u64 a1_1] 82 (0, 0))) := ⟨by rw [← hq_]; exact (bq_ BK112)⟩; replace BK113 : Aside0 (w8.heap[gb113]? = some (.cells #[.int .u64 0, .int .u64 0] 82 (0, 0))) := ⟨by rw [← hq_]; exact (bq_ BK113)⟩; replace HB : Aside0 (Below w.heap.size w w8) := ⟨by rw [← hq_]; exact bh_⟩; clear hq_)); replace hc113 := ce2_ BK113))
  refine bodyPost_ret (results_ct rfl _ _ gb113 82 #[.int .u64 t116, .int .u64 t114] (0, 0) _ rfl (bp2_ (bq_ BK113)) Try.underlying82 rfl (by kernel_rfl)) rfl ?_
  exact fi_
 ·rw [if_neg c5] at H
  have c5b0 : (t117 == 0) = false := beq_eq_false_iff_ne.mpr c5
  have c5b1 : (t117 != 0) = true := bne_iff_ne.mpr c5
  simp only [Option.some.injEq, Prod.mk.injEq] at H
  obtain ⟨rfl, rfl, rfl⟩ := H
  go_enter Try.func34, Try.ntmps34
  go_wp2_with (first | ((with_reducible refine gate_dst (N := 2) rfl ?_); refine bx_ #[.int .u64 a0_0, .int .u64 a0_1] 82 ?_; intro gb111 hg w17 BK111 hb; have GW111 := bz_ w hg; have GE111 := GW111; replace HB := bs_ w hb; clear hb hg) | ((with_reducible refine gate_dst (N := 3) rfl ?_); refine bx_ #[.int .u64 a1_0, .int .u64 a1_1] 82 ?_; intro gb112 hg w18 BK112 hb; have GW112 := bz_ w hg; have GE112 := GW112; have NB111_112 := bn_ BK111 hg; have NB112_111 := bm_ BK111 hg; replace BK111 := bb_ BK111 hb; replace HB := bs_ w hb; clear hb hg) | ((with_reducible refine gate_dst (N := 4) rfl ?_); refine bx_ #[.int .u64 0, .int .u64 0] 82 ?_; intro gb113 hg w19 BK113 hb; have GW113 := bz_ w hg; have GE113 := GW113; have NB111_113 := bn_ BK111 hg; have NB113_111 := bm_ BK111 hg; have NB112_113 := bn_ BK112 hg; have NB113_112 := bm_ BK112 hg; replace BK111 := bb_ BK111 hb; replace BK112 := bb_ BK112 hb; replace HB := bs_ w hb; clear hb hg; replace hn111_112 := NB111_112.out; replace hn112_111 := NB112_111.out; replace hn111_113 := NB111_113.out; replace hn113_111 := NB113_111.out; replace hc111 := ce2_ BK111; replace hn112_113 := NB112_113.out; replace hn113_112 := NB113_112.out; replace hc112 := ce2_ BK112) | ((with_reducible refine gate_callee (f := 48) rfl ?_); refine goesXL_ (some 15) rfl rfl #[.int .u64 a0_1, .int .u64 a1_1, .int .u64 0] rfl (by (try simp only [List.map_toArray, List.map_cons, List.map_nil]); first | done | rfl | (simp only [List.length_drop, List.length_take]; rfl)) ?_; (with_reducible refine (bits_Add64.calls a0_1 a1_1 0 t114 t115 _ A3.out).mono ?_); rintro e w' ⟨rfl, ⟨nd, rfl⟩⟩; refine ⟨_, rfl, ?_⟩; (try ((first | generalize hq_ : World.drewN w19 _ = w19 | (rw [drewN_self w19]; generalize hq_ : World.drewN w19 _ = w19)); replace BK111 : Aside0 (w19.heap[gb111]? = some (.cells #[.int .u64 a0_0, .int .u64 a0_1] 82 (0, 0))) := ⟨by rw [← hq_]; exact (bq_ BK111)⟩; replace BK112 : Aside0 (w19.heap[gb112]? = some (.cells #[.int .u64 a1_0, .int .u64 a1_1] 82 (0, 0))) := ⟨by rw [← hq_]; exact (bq_ BK112)⟩; replace BK113 : Aside0 (w19.heap[gb113]? = some (.cells #[.int .u64 0, .int .u64 0] 82 (0, 0))) := ⟨by rw [← hq_]; exact (bq_ BK113)⟩; replace HB : Aside0 (Below w.heap.size w w19) := ⟨by rw [← hq_]; exact bh_⟩; clear hq_)); replace hc111 := ce2_ BK111; replace hc112 := ce2_ BK112) | ((with_reducible refine gate_callee (f := 48) rfl ?_); refine goesXL_ (some 24) rfl rfl #[.int .u64 a0_0, .int .u64 a1_0, .int .u64 t115] rfl (by (try simp only [List.map_toArray, List.map_cons, List.map_nil]); first | done | rfl | (simp only [List.length_drop, List.length_take]; rfl)) ?_; (with_reducible refine (bits_Add64.calls a0_0 a1_0 t115 t116 t117 _ A4.out).mono ?_); rintro e w' ⟨rfl, ⟨nd, rfl⟩⟩; refine ⟨_, rfl, ?_⟩; (try ((first | generalize hq_ : World.drewN w19 _ = w19 | (rw [drewN_self w19]; generalize hq_ : World.drewN w19 _ = w19)); replace BK111 : Aside0 (w19.heap[gb111]? = some (.cells #[.int .u64 a0_0, .int .u64 a0_1] 82 (0, 0))) := ⟨by rw [← hq_]; exact (bq_ BK111)⟩; replace BK112 : Aside0 (w19.heap[gb112]? = some (.cells #[.int .u64 a1_0, .int .u64 a1_1] 82 (0, 0))) := ⟨by rw [← hq_]; exact (bq_ BK112)⟩; replace BK113 : Aside0 (w19.heap[gb113]? = some (.cells #[.int .u64 0, .int .u64 0] 82 (0, 0))) := ⟨by rw [← hq_]; exact (bq_ BK113)⟩; replace HB : Aside0 (Below w.heap.size w w19) := ⟨by rw [← hq_]; exact bh_⟩; clear hq_)); replace hc113 := ce2_ BK113))
  refine bodyPost_ret (results_ct rfl _ _ gb113 82 #[.int .u64 0, .int .u64 0] (0, 0) _ rfl (bp2_ (bq_ BK113)) Try.underlying82 rfl (by kernel_rfl)) rfl ?_
  exact fi_

/-! ### bits_Mul64: function 49 -/
def bits_Mul64.f (a0 : Int) (a1 : Int) : Option (Int × Int) := some (IntKind.u64.wrap ((IntKind.u64.wrap ((IntKind.u64.wrap ((a0 / 4294967296) * (a1 / 4294967296))) + ((IntKind.u64.wrap ((IntKind.u64.wrap ((a0 / 4294967296) * (Go.bits .and .u64 a1 4294967295))) + ((IntKind.u64.wrap ((Go.bits .and .u64 a0 4294967295) * (Go.bits .and .u64 a1 4294967295))) / 4294967296))) / 4294967296))) + ((IntKind.u64.wrap ((Go.bits .and .u64 (IntKind.u64.wrap ((IntKind.u64.wrap ((a0 / 4294967296) * (Go.bits .and .u64 a1 4294967295))) + ((IntKind.u64.wrap ((Go.bits .and .u64 a0 4294967295) * (Go.bits .and .u64 a1 4294967295))) / 4294967296))) 4294967295) + (IntKind.u64.wrap ((Go.bits .and .u64 a0 4294967295) * (a1 / 4294967296))))) / 4294967296)), IntKind.u64.wrap (a0 * a1))
set_option maxHeartbeats 8000000 in
set_option maxRecDepth 100000 in
theorem bits_Mul64.calls (a0 : Int) (a1 : Int) (r1 : Int) (r2 : Int) (w : World) (h : bits_Mul64.f a0 a1 = some (r1, r2)) :
  Calls Try.prog 49 #[.int .u64 a0, .int .u64 a1] w fun e w' => e = .returned (.tuple #[.int .u64 r1, .int .u64 r2]) ∧ Drawn0 w w' := by
 have H : (some (IntKind.u64.wrap ((IntKind.u64.wrap ((IntKind.u64.wrap ((a0 / 4294967296) * (a1 / 4294967296))) + ((IntKind.u64.wrap ((IntKind.u64.wrap ((a0 / 4294967296) * (Go.bits .and .u64 a1 4294967295))) + ((IntKind.u64.wrap ((Go.bits .and .u64 a0 4294967295) * (Go.bits .and .u64 a1 4294967295))) / 4294967296))) / 4294967296))) + ((IntKind.u64.wrap ((Go.bits .and .u64 (IntKind.u64.wrap ((IntKind.u64.wrap ((a0 / 4294967296) * (Go.bits .and .u64 a1 4294967295))) + ((IntKind.u64.wrap ((Go.bits .and .u64 a0 4294967295) * (Go.bits .and .u64 a1 4294967295))) / 4294967296))) 4294967295) + (IntKind.u64.wrap ((Go.bits .and .u64 a0 4294967295) * (a1 / 4294967296))))) / 4294967296)), IntKind.u64.wrap (a0 * a1))) = some (r1, r2) := h
 clear h
 simp only [Option.some.injEq, Prod.mk.injEq] at H
 obtain ⟨rfl, rfl⟩ := H
 go_enter Try.func49, Try.ntmps49
 go_wp2
 go_ret2
 exact ⟨by first | rfl | (simp; done) | (simp [*]; done), by repeat (first | exact Drawn0.refl _ | apply Drawn0.step)⟩

/-! ### wide_Mul: function 35 -/
def wide_Mul.f (a0 : Int) (a1 : Int) : Option (Int × Int) := (bits_Mul64.f a0 a1).bind fun bt119 => (some (bt119.1, bt119.2))
set_option maxHeartbeats 8000000 in
set_option maxRecDepth 100000 in
theorem wide_Mul.calls (a0 : Int) (a1 : Int) (r1 : Int) (r2 : Int) (w : World) (h : wide_Mul.f a0 a1 = some (r1, r2)) :
  Calls Try.prog 35 #[.int .u64 a0, .int .u64 a1] w fun e w' => e = .returned (.agg #[.int .u64 r1, .int .u64 r2]) ∧ Below w.heap.size w w' := by
 have hu82 := Try.underlying82
 have HB := Aside0.mk (Below.refl w.heap.size w)
 have H : ((bits_Mul64.f a0 a1).bind fun bt119 => (some (bt119.1, bt119.2))) = some (r1, r2) := h
 clear h
 have H0_ := bo_ H; clear H; obtain ⟨⟨t119, t120⟩, A3, H⟩ := H0_
 replace H : (some (t119, t120)) = some (r1, r2) := H
 simp only [Option.some.injEq, Prod.mk.injEq] at H
 obtain ⟨rfl, rfl⟩ := H
 go_enter Try.func35, Try.ntmps35
 go_wp2_with (first | ((with_reducible refine gate_dst (N := 4) rfl ?_); refine bx_ #[.int .u64 0, .int .u64 0] 82 ?_; intro gb118 hg w4 BK118 hb; have GW118 := bz_ w hg; replace HB := bs_ w hb; clear hb hg) | ((with_reducible refine gate_callee (f := 49) rfl ?_); refine goesA_ (some 10) Try.func49 #[.int .u64 a0, .int .u64 a1] ?_; (with_reducible refine (bits_Mul64.calls a0 a1 t119 t120 _ A3.out).mono ?_); rintro e w' ⟨rfl, ⟨nd, rfl⟩⟩; refine ⟨_, rfl, ?_⟩; (try ((first | generalize hq_ : World.drewN w4 _ = w4 | (rw [drewN_self w4]; generalize hq_ : World.drewN w4 _ = w4)); replace BK118 : Aside0 (w4.heap[gb118]? = some (.cells #[.int .u64 0, .int .u64 0] 82 (0, 0))) := ⟨by rw [← hq_]; exact (bq_ BK118)⟩; replace HB : Aside0 (Below w.heap.size w w4) := ⟨by rw [← hq_]; exact bh_⟩; clear hq_)); replace hc118 := ce2_ BK118))
 refine bodyPost_ret (results_cell_row rfl _ _ gb118 82 #[.int .u64 t119, .int .u64 t120] (0, 0) _ rfl (bp2_ (bq_ BK118)) Try.underlying82 rfl (by kernel_rfl)) rfl ?_
 exact fi_

/-! ### wide_Of: function 36 -/
def wide_Of.f (a0 : Int) : Option (Int × Int) := some (0, a0)
set_option maxHeartbeats 8000000 in
set_option maxRecDepth 100000 in
theorem wide_Of.calls (a0 : Int) (r1 : Int) (r2 : Int) (w : World) (h : wide_Of.f a0 = some (r1, r2)) :
  Calls Try.prog 36 #[.int .u64 a0] w fun e w' => e = .returned (.agg #[.int .u64 r1, .int .u64 r2]) ∧ Below w.heap.size w w' := by
 have hu82 := Try.underlying82
 have HB := Aside0.mk (Below.refl w.heap.size w)
 have H : (some (0, a0)) = some (r1, r2) := h
 clear h
 simp only [Option.some.injEq, Prod.mk.injEq] at H
 obtain ⟨rfl, rfl⟩ := H
 go_enter Try.func36, Try.ntmps36
 go_wp2_with (first | ((with_reducible refine gate_dst (N := 2) rfl ?_); refine bx_ #[.int .u64 0, .int .u64 0] 82 ?_; intro gb121 hg w2 BK121 hb; have GW121 := bz_ w hg; replace HB := bs_ w hb; clear hb hg; replace hc121 := ce2_ BK121))
 refine bodyPost_ret (results_cell_row rfl _ _ gb121 82 #[.int .u64 0, .int .u64 a0] (0, 0) _ rfl (bp2_ (bq_ BK121)) Try.underlying82 rfl (by kernel_rfl)) rfl ?_
 exact fi_

end Go.Proofs.Ytbfdpodlnijeoaa.X
