-- written by xprint.py, a program of this session over the kit's print
import Derived.Test.YtimhghmfhfggoaaX0
import Derived.Test.YtimhghmfhfggoaaX45
namespace Go.Proofs.Ytimhghmfhfggoaa.X
open Go.RowKit Go.Proofs.YtimhghmfhfggoaaW.PrintWords Go.Proofs.YtimhghmfhfggoaaW.PrintLast Go.Proofs.YtimhghmfhfggoaaW.PrintMore
attribute [local go_sem] max2_int min2_int max_two min_two max_three min_three max_four min_four   -- for this text's walks alone
set_option linter.unusedVariables false
set_option linter.unusedSimpArgs false

mutual
def slices_Concat_api_Charge.l0 : Nat → List (List (S62)) → Int → List (List (S62)) → Int → Int → Option ((List (S62)))
  | 0, _, _, _, _, _ => none
  | k + 1, x0, x3, x9, x10, x11 => if x11 < x10 then (if 0 ≤ x11 then (if x11 < (x9.length : Int) then (if (wrap64 (x3 + ((rd_L5 x9 x11).length : Int))) < 0 then (none) else (slices_Concat_api_Charge.l0 k x0 (wrap64 (x3 + ((rd_L5 x9 x11).length : Int))) x9 x10 (wrap64 (x11 + 1)))) else (none)) else (none)) else ((slices_Grow_api_Charge.f ([] : List (S62)) x3).bind fun t508 => (slices_Concat_api_Charge.l1 k t508 x0 (x0.length : Int) 0))
def slices_Concat_api_Charge.l1 : Nat → List (S62) → List (List (S62)) → Int → Int → Option ((List (S62)))
  | 0, _, _, _, _ => none
  | k + 1, x6, x25, x26, x27 => if x27 < x26 then (if 0 ≤ x27 then (if x27 < (x25.length : Int) then (if x6.length + (rd_L5 x25 x27).length < 8796093022208 then (slices_Concat_api_Charge.l1 k (x6 ++ (rd_L5 x25 x27)) x25 x26 (wrap64 (x27 + 1))) else (none)) else (none)) else (none)) else (some x6)
end
def slices_Concat_api_Charge.f (k : Nat) (l0 : List (List (S62))) : Option ((List (S62))) := slices_Concat_api_Charge.l0 k l0 0 l0 (l0.length : Int) 0
set_option maxHeartbeats 8000000 in
set_option maxRecDepth 100000 in
theorem slices_Concat_api_Charge.calls (k : Nat) (A0 : Option Addr) (c0 : Nat) (l0 : List (List (S62))) (r : List (S62)) (w : World) (hr0 : Kd.C (Kd.slice 62 k62) w A0 l0.length l0) (hc0 : l0.length ≤ c0) (h : slices_Concat_api_Charge.f k l0 = some r) :
  Calls Try.prog 45 #[.slice A0 l0.length c0] w fun e w' => ∃ v0_ : Value, e = .returned (v0_) ∧ Kd.R k62 62 w' w.heap.size (fun _ => True) v0_ r ∧ Below w.heap.size w w' := by
 have HR0 := Aside0.mk hr0
 have HC0 := Aside0.mk hc0
 clear hr0 hc0
 have HB := Aside0.mk (Below.refl w.heap.size w)
 have H : (slices_Concat_api_Charge.l0 k l0 0 l0 (l0.length : Int) 0) = some r := h
 clear h
 have H' := Aside0.mk H
 clear H
 go_enter Try.func45, Try.ntmps45
 go_wp2
 go_loopg [3, 11] k (fun kq v3 v11 w' => ∃ (x3_1 : Int) (x11_1 : Int), v3 = .int .i64 x3_1 ∧ v11 = .int .i64 x11_1 ∧ Aside0 (slices_Concat_api_Charge.l0 kq l0 x3_1 l0 (l0.length : Int) x11_1 = some r) ∧ Aside0 (kq ≤ k) ∧ Aside0 (Below w.heap.size w w'))
 case atStart => exact ⟨(0), (0), rf_, rf_, H', ⟨Nat.le_refl _⟩, bw_⟩
 case round =>
  clear H'
  obtain ⟨x3_1, x11_1, rfl, rfl, HA, HK1, HB⟩ := hrel
  cases gk with
  | zero => exact absurd HA.out (by simp [slices_Concat_api_Charge.l0])
  | succ k1 =>
   have H := HA.out
   clear HA
   simp only [slices_Concat_api_Charge.l0] at H
   by_cases c2 : x11_1 < (l0.length : Int)
   ·rw [if_pos c2] at H
    have c2b0 : decide (x11_1 < (l0.length : Int)) = true := decide_eq_true c2
    clear c2
    by_cases c3 : 0 ≤ x11_1
    rotate_left
    ·rw [if_neg c3] at H; exact absurd H (by simp)
    rw [if_pos c3] at H
    have c3b0 : decide (0 ≤ x11_1) = true := decide_eq_true c3
    clear c3
    by_cases c4 : x11_1 < (l0.length : Int)
    rotate_left
    ·rw [if_neg c4] at H; exact absurd H (by simp)
    rw [if_pos c4] at H
    have c4b0 : decide (x11_1 < (l0.length : Int)) = true := decide_eq_true c4
    clear c4
    by_cases c5 : (wrap64 (x3_1 + ((rd_L5 l0 x11_1).length : Int))) < 0
    ·rw [if_pos c5] at H; exact absurd H (by simp)
    rw [if_neg c5] at H
    have c5b0 : decide ((wrap64 (x3_1 + ((rd_L5 l0 x11_1).length : Int))) < 0) = false := decide_eq_false c5
    clear c5
    have H' := Aside0.mk H
    clear H
    have p507 : 0 ≤ (x11_1 : Int) := of_decide_eq_true (by first | (with_reducible assumption) | assumption)
    have q507 : x11_1 < (l0.length : Int) := of_decide_eq_true (by first | (with_reducible assumption) | assumption)
    obtain ⟨ad507, A507_0, c507_0, e507, hx507_0, hl507_0, hi507_0⟩ := at_L5 HR0.out x11_1 p507 q507
    cases e507
    replace hx507_0 := (HB.out.cell (World.block_lt_of_cell? w _ hx507_0)).trans hx507_0
    have HR507_0 := Aside0.mk hi507_0
    have HC507_0 := Aside0.mk hl507_0
    clear hi507_0 hl507_0
    replace p507 := eq_true p507
    replace q507 := eq_true q507
    go_wp2
    go_roundg k1
    case measure => have := HK1.out; omega
    case rel => exact ⟨(wrap64 (x3_1 + ((rd_L5 l0 x11_1).length : Int))), (wrap64 (x11_1 + 1)), rf_, rf_, H', ⟨by have := HK1.out; omega⟩, bw_⟩
   ·rw [if_neg c2] at H
    have c2b0 : decide (x11_1 < (l0.length : Int)) = false := decide_eq_false c2
    clear c2
    have H0_ := bo_ H; clear H; obtain ⟨t508, A6, H⟩ := H0_
    replace H : (slices_Concat_api_Charge.l1 k1 t508 l0 (l0.length : Int) 0) = some r := H
    have H' := Aside0.mk H
    clear H
    go_wp2_with (first | ((with_reducible refine gate_callee (f := 61) rfl ?_); refine goesA_ (some 24) Try.func61 #[.slice none 0 0, .int .i64 x3_1] ?_; (refine (slices_Grow_api_Charge.calls _ _ ([] : List (S62)) x3_1 t508 _ ?side1 ?side2 A6.out).mono ?_); (case side1 => rfl); (case side2 => rfl); rintro e w7 ⟨v509, rfl, ho0, hb⟩; refine ⟨_, rfl, ?_⟩; have HO510 := Aside0.mk (Kd.R_lower ho0 (below_size (hq_ HB))); replace HB := bs_ w hb; clear hb; (try clear ho0)))
    (try simp only [Act.put, List.setIfInBounds_toArray, List.set_cons_zero, List.set_cons_succ])
    go_loopg [6, 27] k1 (fun kq v6 v27 w' => ∃ (x6_2 : List (S62)) (x27_2 : Int), v27 = .int .i64 x27_2 ∧ Aside0 (slices_Concat_api_Charge.l1 kq x6_2 l0 (l0.length : Int) x27_2 = some r) ∧ Aside0 (kq ≤ k1) ∧ Aside0 (Kd.R k62 62 w' w.heap.size (fun _ => True) v6 x6_2) ∧ Aside0 (Below w.heap.size w w'))
    case atStart => exact ⟨(t508), (0), rf_, H', ⟨Nat.le_refl _⟩, ⟨rs_ HO510⟩, bw_⟩
    case round =>
     clear H'
     try clear c2
     try clear c2b0
     obtain ⟨x6_2, x27_2, rfl, HA, HK2, HO_6, HB⟩ := hrel
     cases gk with
     | zero => exact absurd HA.out (by simp [slices_Concat_api_Charge.l1])
     | succ k2 =>
      have H := HA.out
      clear HA
      simp only [slices_Concat_api_Charge.l1] at H
      by_cases c8 : x27_2 < (l0.length : Int)
      ·rw [if_pos c8] at H
       have c8b0 : decide (x27_2 < (l0.length : Int)) = true := decide_eq_true c8
       clear c8
       by_cases c9 : 0 ≤ x27_2
       rotate_left
       ·rw [if_neg c9] at H; exact absurd H (by simp)
       rw [if_pos c9] at H
       have c9b0 : decide (0 ≤ x27_2) = true := decide_eq_true c9
       clear c9
       by_cases c10 : x27_2 < (l0.length : Int)
       rotate_left
       ·rw [if_neg c10] at H; exact absurd H (by simp)
       rw [if_pos c10] at H
       have c10b0 : decide (x27_2 < (l0.length : Int)) = true := decide_eq_true c10
       clear c10
       by_cases c11 : x6_2.length + (rd_L5 l0 x27_2).length < 8796093022208
       rotate_left
       ·rw [if_neg c11] at H; exact absurd H (by simp)
       rw [if_pos c11] at H
       have LMc11 := Aside0.mk c11
       clear c11
       obtain ⟨y512, hy512⟩ : ∃ y_ : List (S62), y_ = (x6_2 ++ (rd_L5 l0 x27_2)) := ⟨_, rfl⟩
       replace H : (slices_Concat_api_Charge.l1 k2 y512 l0 (l0.length : Int) (wrap64 (x27_2 + 1))) = some r := by first | (rw [hy512]; with_reducible exact H) | (have H2_ := (Option.bind_some _ _).symm.trans H; rw [hy512]; with_reducible exact H2_) | (have H2_ := (Option.bind_some _ _).symm.trans H; with_reducible exact H2_) | with_reducible exact H | (rw [hy512]; exact H) | exact H
       have Ny512 := Aside0.mk hy512
       clear hy512
       have H' := Aside0.mk H
       clear H
       have p511 : 0 ≤ (x27_2 : Int) := of_decide_eq_true (by first | (with_reducible assumption) | assumption)
       have q511 : x27_2 < (l0.length : Int) := of_decide_eq_true (by first | (with_reducible assumption) | assumption)
       obtain ⟨ad511, A511_0, c511_0, e511, hx511_0, hl511_0, hi511_0⟩ := at_L5 HR0.out x27_2 p511 q511
       cases e511
       replace hx511_0 := (HB.out.cell (World.block_lt_of_cell? w _ hx511_0)).trans hx511_0
       have HR511_0 := Aside0.mk hi511_0
       have HC511_0 := Aside0.mk hl511_0
       clear hi511_0 hl511_0
       replace p511 := eq_true p511
       replace q511 := eq_true q511
       go_wp2_with (first | ((with_reducible refine gate_builtin (b := .append) (xs := #[.tmp 31, .tmp 32]) rfl ?_); at_builtin; refine Kd.R_append_rows k62 (w0 := w) w.heap.size rfl (.tmp 31) (.tmp 32) 23 62 (.agg #[(.int .u64 0), (.int .i64 0)]) 16 rfl Try.underlying23 info62 rfl (by decide) (by omega) u6 x6_2 (rd_L5 l0 x27_2) _ _ _ (fun _ => True) (fun _ => False) rfl rfl ?aO ?aR (fun _ _ h => h) (fun _ h => h.elim) ?aF ?aB ?aS ?aL ?_; (case aR => exact cs_ HR511_0 HB); (case aB => exact (hq_ HB)); (case aF => exact (fun _ _ => trivial)); (case aO => exact (rs_ HO_6)); (case aS => exact (below_size (hq_ HB))); (case aL => have := LMc11.out; omega); intro v513 w12 ho hb hg hat; rw [← Ny512.out] at ho; have HO514 := Aside0.mk (ho); replace HB := Aside0.mk (hb); clear HO_6; clear ho hb hg hat))
       go_roundg k2
       case measure => have := HK1.out; have := HK2.out; omega
       case rel => exact ⟨(y512), (wrap64 (x27_2 + 1)), rf_, H', ⟨by have := HK1.out; have := HK2.out; omega⟩, ⟨rs_ HO514⟩, bw_⟩
      ·rw [if_neg c8] at H
       have c8b0 : decide (x27_2 < (l0.length : Int)) = false := decide_eq_false c8
       clear c8
       obtain rfl := Option.some.inj H
       go_wp2
       go_ret
       exact ⟨_, by first | rfl | (simp [errW_none, errW_some] <;> rfl) | (simp [*, errW_none, errW_some] <;> rfl), by (with_reducible repeat (first | apply Kd.R_alloc | apply Kd.R_drewN | apply Kd.R_drew)); exact HO_6.out, by repeat (first | (with_reducible first | exact HB.out | apply below_alloc | apply pw_below_drewN | apply below_drew1) | exact HB.out)⟩

-- NOT PRINTED: function 77 (slices_insertionSortCmpFunc_api_Charge)

-- NOT PRINTED: function 91 (slices_swapRangeCmpFunc_api_Charge)

-- NOT PRINTED: function 87 (slices_rotateCmpFunc_api_Charge)

-- NOT PRINTED: function 78 (slices_symMergeCmpFunc_api_Charge)

-- NOT PRINTED: function 62 (slices_stableCmpFunc_api_Charge)

-- NOT PRINTED: function 46 (slices_SortStableFunc_api_Charge)

def curve_Join_1.f (a0_0 : Int) (a0_1 : Int) (a1_0 : Int) (a1_1 : Int) : Option (Int) := if a0_0 < a1_0 then (some (-1)) else (if a0_0 > a1_0 then (some 1) else (some 0))
set_option maxHeartbeats 8000000 in
set_option maxRecDepth 100000 in
theorem curve_Join_1.calls (a0_0 : Int) (a0_1 : Int) (a1_0 : Int) (a1_1 : Int) (r : Int) (w : World) (h : curve_Join_1.f a0_0 a0_1 a1_0 a1_1 = some r) :
  Calls Try.prog 47 #[.agg #[.int .u64 a0_0, .int .i64 a0_1], .agg #[.int .u64 a1_0, .int .i64 a1_1]] w fun e w' => e = .returned (.int .i64 r) ∧ Below w.heap.size w w' := by
 have hu62 := Try.underlying62
 have HB := Aside0.mk (Below.refl w.heap.size w)
 have H : (if a0_0 < a1_0 then (some (-1)) else (if a0_0 > a1_0 then (some 1) else (some 0))) = some r := h
 clear h
 by_cases c3 : a0_0 < a1_0
 ·rw [if_pos c3] at H
  have c3b0 : decide (a0_0 < a1_0) = true := decide_eq_true c3
  clear c3
  obtain rfl := Option.some.inj H
  go_enter Try.func47, Try.ntmps47
  go_wp2_with (first | ((with_reducible refine gate_dst (N := 2) rfl ?_); refine bx_ #[.int .u64 a0_0, .int .i64 a0_1] 62 ?_; intro gb515 hg w4 BK515 hb; have GW515 := bz_ w hg; have GE515 := GW515; replace HB := bs_ w hb; clear hb hg) | ((with_reducible refine gate_dst (N := 3) rfl ?_); refine bx_ #[.int .u64 a1_0, .int .i64 a1_1] 62 ?_; intro gb516 hg w5 BK516 hb; have GW516 := bz_ w hg; have GE516 := GW516; have NB515_516 := bn_ BK515 hg; have NB516_515 := bm_ BK515 hg; replace BK515 := bb_ BK515 hb; replace HB := bs_ w hb; clear hb hg; replace hn515_516 := NB515_516.out; replace hn516_515 := NB516_515.out; replace hc515 := ce2_ BK515; replace hc516 := ce2_ BK516))
  go_ret
  exact fi_
 ·rw [if_neg c3] at H
  have c3b0 : decide (a0_0 < a1_0) = false := decide_eq_false c3
  clear c3
  by_cases c9 : a0_0 > a1_0
  ·rw [if_pos c9] at H
   have c9b0 : decide (a1_0 < a0_0) = true := decide_eq_true c9
   clear c9
   obtain rfl := Option.some.inj H
   go_enter Try.func47, Try.ntmps47
   go_wp2_with (first | ((with_reducible refine gate_dst (N := 2) rfl ?_); refine bx_ #[.int .u64 a0_0, .int .i64 a0_1] 62 ?_; intro gb515 hg w10 BK515 hb; have GW515 := bz_ w hg; have GE515 := GW515; replace HB := bs_ w hb; clear hb hg) | ((with_reducible refine gate_dst (N := 3) rfl ?_); refine bx_ #[.int .u64 a1_0, .int .i64 a1_1] 62 ?_; intro gb516 hg w11 BK516 hb; have GW516 := bz_ w hg; have GE516 := GW516; have NB515_516 := bn_ BK515 hg; have NB516_515 := bm_ BK515 hg; replace BK515 := bb_ BK515 hb; replace HB := bs_ w hb; clear hb hg; replace hn515_516 := NB515_516.out; replace hn516_515 := NB516_515.out; replace hc515 := ce2_ BK515; replace hc516 := ce2_ BK516))
   go_ret
   exact fi_
  ·rw [if_neg c9] at H
   have c9b0 : decide (a1_0 < a0_0) = false := decide_eq_false c9
   clear c9
   obtain rfl := Option.some.inj H
   go_enter Try.func47, Try.ntmps47
   go_wp2_with (first | ((with_reducible refine gate_dst (N := 2) rfl ?_); refine bx_ #[.int .u64 a0_0, .int .i64 a0_1] 62 ?_; intro gb515 hg w15 BK515 hb; have GW515 := bz_ w hg; have GE515 := GW515; replace HB := bs_ w hb; clear hb hg) | ((with_reducible refine gate_dst (N := 3) rfl ?_); refine bx_ #[.int .u64 a1_0, .int .i64 a1_1] 62 ?_; intro gb516 hg w16 BK516 hb; have GW516 := bz_ w hg; have GE516 := GW516; have NB515_516 := bn_ BK515 hg; have NB516_515 := bm_ BK515 hg; replace BK515 := bb_ BK515 hb; replace HB := bs_ w hb; clear hb hg; replace hn515_516 := NB515_516.out; replace hn516_515 := NB516_515.out; replace hc515 := ce2_ BK515; replace hc516 := ce2_ BK516))
   go_ret
   exact fi_

end Go.Proofs.Ytimhghmfhfggoaa.X
