-- written by xprint.py, a program of this session over the kit's print
import Derived.Test.YtjjmnafhaneflaaX0
import Derived.Test.YtjjmnafhaneflaaX6
import Derived.Test.YtjjmnafhaneflaaX13
import Derived.Test.YtjjmnafhaneflaaX18
namespace Go.Proofs.Ytjjmnafhaneflaa.X
open Go.RowKit Go.Proofs.YtjjmnafhaneflaaW.PrintWords Go.Proofs.YtjjmnafhaneflaaW.PrintLast Go.Proofs.YtjjmnafhaneflaaW.PrintMore
attribute [local go_sem] max2_int min2_int max_two min_two max_three min_three max_four min_four   -- for this text's walks alone
set_option linter.unusedVariables false
set_option linter.unusedSimpArgs false

/-! ### window_Most: function 12 -/
/-- The most that any window of one charge holds; acc: what was, the newest first. -/
def mostL (span : Int) : List S58 → List S58 → Int → Int
  | [], _, m => m
  | x :: c, acc, m => mostL span c (x :: acc) (mx m (sB (inS span x.f0) (x :: acc)))
set_option maxHeartbeats 2000000 in
theorem window_Most.lit (x t cap span : Int) (g gx : Nat) (w : World) (h1 : w.cell? ⟨g, 1, none⟩ = some (.int .i64 span)) (hx : w.cell? ⟨gx, 0, none⟩ = some (.int .u64 x)) :
  Calls Try.prog 34 #[.int .u64 t, .pointer (some ⟨gx, 0, none⟩), .pointer (some ⟨g, 0, none⟩)] w fun e w' => e = .returned (.bool (decide (IntKind.u64.wrap (x - t) < IntKind.u64.wrap span))) ∧ w' = w := by
  have hu := Try.underlying23
  have hu2 := Try.underlying58
  go_enter Try.func34, Try.ntmps34
  go_wp2
  go_ret
  exact ⟨rfl, rfl⟩
theorem window_Most.own {a0_0 a0_1 : Int} {l1 : List S58} (gw gx : Nat) (w : World) (OK : 1 ≤ a0_0 ∧ a0_0 ≤ 1000000000 ∧ 1 ≤ a0_1 ∧ a0_1 ≤ 1000000000 ∧ l1.length ≤ 1000 ∧ okB l1 0 = true) {i : Nat} (hi : i < l1.length) {y : S58} (hy : y ∈ l1.take (i + 1)) (h1 : w.cell? ⟨gw, 1, none⟩ = some (.int .i64 a0_1)) (hx : w.cell? ⟨gx, 0, none⟩ = some (.int .u64 l1[i].f0)) :
  Calls Try.prog 34 (#[.int .u64 y.f0] ++ #[.pointer (some ⟨gx, 0, none⟩), .pointer (some ⟨gw, 0, none⟩)]) w fun e w'' => e = .returned (.bool (inS a0_1 l1[i].f0 y.f0)) ∧ Below w.heap.size w w'' := by
  obtain ⟨s1, s2⟩ := okB_spec OK.2.2.2.2.2
  have b1 := s1 _ (List.getElem_mem hi)
  have b2 := s1 y (List.mem_of_mem_take hy)
  have b3 : y.f0 ≤ l1[i].f0 := by
    rw [List.take_add_one, List.getElem?_eq_getElem hi, Option.toList_some] at hy
    rcases List.mem_append.1 hy with h | h
    · exact s2 i hi y h
    · rw [List.mem_singleton.1 h]; exact Int.le_refl _
  have e : decide (IntKind.u64.wrap (l1[i].f0 - y.f0) < IntKind.u64.wrap a0_1) = inS a0_1 l1[i].f0 y.f0 := by
    rw [wrapU (by omega) (by omega), wrapU (by omega) (by omega)]
    rfl
  refine (window_Most.lit l1[i].f0 y.f0 a0_0 a0_1 gw gx w h1 hx).mono fun e' w' ⟨h, hw⟩ => ?_
  subst hw
  exact ⟨by rw [h, e], Below.refl _ _⟩
def window_Most.f (k : Nat) (a0_0 : Int) (a0_1 : Int) (l1 : List (S58)) : Option (Int × Int) := (window_both.f k a0_0 a0_1 l1).bind fun e => if e = 0 then (if okW a0_0 a0_1 l1 = true then some (mostL a0_1 l1 [] 0, 0) else none) else some (0, e)
theorem window_Most.mono : ∀ a0 a1 a2 k, LeO (window_Most.f k a0 a1 a2) (window_Most.f (k + 1) a0 a1 a2) := by
  intro a0 a1 a2 k
  unfold window_Most.f
  exact LeO.bind (window_both.mono _ _ _ _) (fun _ => LeO.refl _)
set_option maxHeartbeats 8000000 in
set_option maxRecDepth 100000 in
theorem window_Most.calls (k : Nat) (a0_0 : Int) (a0_1 : Int) (A1 : Option Addr) (c1 : Nat) (l1 : List (S58)) (r1 : Int) (r2 : Int) (w : World) (hr1 : Kd.C k58 w A1 l1.length l1) (hc1 : l1.length ≤ c1) (h : window_Most.f k a0_0 a0_1 l1 = some (r1, r2)) :
  Calls Try.prog 12 #[.agg #[.int .i64 a0_0, .int .i64 a0_1], .slice A1 l1.length c1] w fun e w' => e = .returned (.tuple #[.int .i64 r1, .int .i64 r2]) ∧ Below w.heap.size w w' := by
 have hu1 := Try.underlying23
 have hu2 := Try.underlying58
 have HR1 := Aside0.mk hr1
 have HC1 := Aside0.mk hc1
 clear hr1 hc1
 have HB := Aside0.mk (Below.refl w.heap.size w)
 unfold window_Most.f at h
 obtain ⟨t, A3, H⟩ := bo_ h
 clear h
 by_cases c4 : t = 0
 ·rw [if_pos c4] at H
  by_cases c5 : okW a0_0 a0_1 l1 = true
  ·rw [if_pos c5] at H
   simp only [Option.some.injEq, Prod.mk.injEq] at H
   obtain ⟨rfl, rfl⟩ := H
   have c4b0 : (t == 0) = true := beq_iff_eq.mpr c4
   have c4b1 : (t != 0) = false := bne_eq_false_iff_eq.mpr c4
   clear c4
   have OK := Aside0.mk (okW_spec c5)
   clear c5
   go_enter Try.func12, Try.ntmps12
   go_wp2_with (first | ((with_reducible refine gate_dst (N := 2) rfl ?_); refine bx_ #[.int .i64 a0_0, .int .i64 a0_1] 23 ?_; intro gw hg w5 BKw hb; have GWw := bz_ w hg; replace HB := bs_ w hb; clear hb hg; replace hcw := ce2_ BKw) | ((with_reducible refine gate_callee (f := 29) rfl ?_); refine goesA_ (some 12) Try.func29 #[.agg #[.int .i64 a0_0, .int .i64 a0_1], .slice A1 l1.length c1] ?_; (with_reducible refine (window_both.calls k a0_0 a0_1 _ _ l1 t _ ?side1 ?side2 A3.out).mono ?_); (case side1 => exact cs_ HR1 HB); (case side2 => exact HC1.out); rintro e w7 ⟨rfl, hb⟩; refine ⟨_, rfl, ?_⟩; replace BKw := bb_ BKw hb; replace HB := bs_ w hb; clear hb; replace hcw := ce2_ BKw))
   clear hcw
   go_loopg [7, 18] l1.length (fun gg v7 v18 w' => ∃ (m : Int) (i : Nat), v7 = .int .i64 m ∧ v18 = .int .i64 (i : Int) ∧ Aside0 (i ≤ l1.length ∧ l1.length - i ≤ gg) ∧ Aside0 (mostL a0_1 l1 [] 0 = mostL a0_1 (l1.drop i) (l1.take i).reverse m) ∧
     Aside0 (w'.heap[gw]? = some (.cells #[.int .i64 a0_0, .int .i64 a0_1] 23 (0, 0))) ∧ Aside0 (Below w.heap.size w w'))
   case atStart => exact ⟨0, 0, rf_, rf_, ⟨by omega, by omega⟩, ⟨rfl⟩, ⟨bq_ BKw⟩, bw_⟩
   case round =>
    obtain ⟨m, i, rfl, rfl, HI, HA, BKw, HB⟩ := hrel
    by_cases c4 : (i : Int) < (l1.length : Int)
    · have hil : i < l1.length := by omega
      have p0 : 0 ≤ (i : Int) := by omega
      obtain ⟨ad, e, hx0, hx1⟩ := at_T58 HR1.out i p0 c4
      cases e
      have er : rd_T58 l1 (i : Int) = l1[i] := by
        unfold rd_T58
        rw [List.getD_eq_getElem?_getD, Int.toNat_natCast, List.getElem?_eq_getElem hil]
        rfl
      rw [er, Int.toNat_natCast] at hx0 hx1
      replace hx0 := (HB.out.cell (World.block_lt_of_cell? w _ hx0)).trans hx0
      replace hx1 := (HB.out.cell (World.block_lt_of_cell? w _ hx1)).trans hx1
      have P0 := Aside0.mk c4
      replace p0 := eq_true p0
      replace c4 := eq_true c4
      obtain ⟨y, hy⟩ : ∃ y, y = l1.take (i + 1) := ⟨_, rfl⟩
      have hyl : y.length = i + 1 := by rw [hy, List.length_take]; omega
      have hlen := OK.out.2.2.2.2.1
      have ew : wrap64 ((i : Int) + 1) = ((i + 1 : Nat) : Int) := by unfold wrap64; omega
      have hw : (wrap64 ((i : Int) + 1)).toNat = y.length := by rw [ew, hyl]; exact Int.toNat_natCast _
      have HW := Aside0.mk hw
      clear hw
      have hroom := HC1.out
      have q3 : (0 ≤ wrap64 ((i : Int) + 1) ∧ wrap64 ((i : Int) + 1) ≤ (c1 : Int)) = True := by rw [ew]; exact eq_true (by omega)
      have q1 : (0 ≤ wrap64 ((i : Int) + 1)) = True := by rw [ew]; exact eq_true (by omega)
      have q2 : (wrap64 ((i : Int) + 1) ≤ (c1 : Int)) = True := by rw [ew]; exact eq_true (by omega)
      clear hroom
      have HY := Aside0.mk hy
      have HYL := Aside0.mk hyl
      have EW := Aside0.mk ew
      clear hy hyl hlen ew
      have HA2 : Aside0 (mostL a0_1 l1 [] 0 = mostL a0_1 (l1.drop (i + 1)) (l1.take (i + 1)).reverse (mx m (sB (inS a0_1 l1[i].f0) y.reverse))) := ⟨by
        have hd : l1.drop i = l1[i] :: l1.drop (i + 1) := List.drop_eq_getElem_cons hil
        have ht : (l1.take (i + 1)).reverse = l1[i] :: (l1.take i).reverse := by
          rw [List.take_add_one, List.getElem?_eq_getElem hil, Option.toList_some, List.reverse_append, List.reverse_singleton, List.singleton_append]
        rw [HA.out, hd, HY.out, ht]
        rfl⟩
      go_wp2_with (first | ((with_reducible refine gate_callee (f := 33) rfl ?_); obtain ⟨gx, hg⟩ : ∃ g, g = wr.heap.size := ⟨_, rfl⟩; have hbx : (wr.alloc (.cells #[.int .u64 l1[i].f0, .int .i64 l1[i].f1] 58)).heap[wr.heap.size]? = some (.cells #[.int .u64 l1[i].f0, .int .i64 l1[i].f1] 58 (0, 0)) := blk_new wr _; have hb : Below wr.heap.size wr (wr.alloc (.cells #[.int .u64 l1[i].f0, .int .i64 l1[i].f1] 58)) := below_alloc (Below.refl _ _) _; generalize wr.alloc (.cells #[.int .u64 l1[i].f0, .int .i64 l1[i].f1] 58) = w7 at hbx hb ⊢; rw [← hg] at hbx ⊢; rw [HW.out]; have BKx := Aside0.mk hbx; have GWx := bz_ w hg; replace BKw := bb_ BKw hb; replace HB := bs_ w hb; clear hb hg hbx hx0 hx1; refine goesA_ (some 29) Try.func33 #[.slice (some ad) y.length c1, .func (.func 34) #[] #[.pointer (some ⟨gx, 0, none⟩), .pointer (some ⟨gw, 0, none⟩)]] ?_; (refine (window_summed.run (inS a0_1 l1[i].f0) 34 Try.f34 #[.pointer (some ⟨gx, 0, none⟩), .pointer (some ⟨gw, 0, none⟩)] Try.func34 (by kernel_rfl) rfl (some ad) c1 y _ ?side1 ?side2 ?side3 ?side4).mono ?_); (case side1 => have h0 : Kd.C k58 w7 (some ad) l1.length l1 := cs_ HR1 HB; have h1 := Kd.C_take (m := i + 1) h0 (by omega); rw [← HY.out] at h1; exact h1); (case side2 => have h1 := HYL.out; have h2 := OK.out.2.2.2.2.1; omega); (case side3 => exact fun z hz => ((okB_spec OK.out.2.2.2.2.2).1 z (List.mem_of_mem_take (by rw [HY.out] at hz; exact hz))).2.2); (case side4 => exact fun w' z hz hb => window_Most.own gw gx w' OK.out hil (by rw [HY.out] at hz; exact hz) ((blk_cell (bb_ BKw hb).out 1).trans rfl) ((blk_cell (bb_ BKx hb).out 0).trans rfl)); rintro e w8 ⟨rfl, hb⟩; refine ⟨_, rfl, ?_⟩; replace BKw := bb_ BKw hb; replace HB := bs_ w hb; clear hb))
      · have hmx : mx m (sB (inS a0_1 l1[i].f0) y.reverse) = sB (inS a0_1 l1[i].f0) y.reverse := by unfold mx; rw [if_pos (by omega)]
        rw [hmx] at HA2
        have ew := EW.out
        rw [ew]
        go_roundg (gk - 1)
        case measure => have := HI.out; have := P0.out; omega
        case rel => exact ⟨_, i + 1, rf_, rf_, ⟨by have := HI.out; have := P0.out; omega, by have := HI.out; have := P0.out; omega⟩, HA2, ⟨bq_ BKw⟩, bw_⟩
      · have hmx : mx m (sB (inS a0_1 l1[i].f0) y.reverse) = m := by unfold mx; rw [if_neg (by omega)]
        rw [hmx] at HA2
        have ew := EW.out
        rw [ew]
        go_roundg (gk - 1)
        case measure => have := HI.out; have := P0.out; omega
        case rel => exact ⟨_, i + 1, rf_, rf_, ⟨by have := HI.out; have := P0.out; omega, by have := HI.out; have := P0.out; omega⟩, HA2, ⟨bq_ BKw⟩, bw_⟩
    · have MISS : Aside0 (mostL a0_1 l1 [] 0 = m) := ⟨by rw [HA.out, List.drop_eq_nil_of_le (by omega)]; rfl⟩
      replace c4 := eq_false c4
      go_wp2
      go_ret2
      exact ⟨by rw [MISS.out]; rfl, HB.out⟩
  ·rw [if_neg c5] at H; exact absurd H (by simp)
 ·rw [if_neg c4] at H
  simp only [Option.some.injEq, Prod.mk.injEq] at H
  obtain ⟨rfl, rfl⟩ := H
  have c4b0 : (t == 0) = false := beq_eq_false_iff_ne.mpr c4
  have c4b1 : (t != 0) = true := bne_iff_ne.mpr c4
  clear c4
  go_enter Try.func12, Try.ntmps12
  go_wp2_with (first | ((with_reducible refine gate_dst (N := 2) rfl ?_); refine bx_ #[.int .i64 a0_0, .int .i64 a0_1] 23 ?_; intro gw hg w5 BKw hb; have GWw := bz_ w hg; replace HB := bs_ w hb; clear hb hg; replace hcw := ce2_ BKw) | ((with_reducible refine gate_callee (f := 29) rfl ?_); refine goesA_ (some 12) Try.func29 #[.agg #[.int .i64 a0_0, .int .i64 a0_1], .slice A1 l1.length c1] ?_; (with_reducible refine (window_both.calls k a0_0 a0_1 _ _ l1 t _ ?side1 ?side2 A3.out).mono ?_); (case side1 => exact cs_ HR1 HB); (case side2 => exact HC1.out); rintro e w7 ⟨rfl, hb⟩; refine ⟨_, rfl, ?_⟩; replace BKw := bb_ BKw hb; replace HB := bs_ w hb; clear hb; replace hcw := ce2_ BKw))
  go_ret2
  exact ⟨rfl, bh_⟩

/-! ### spigotref38_within: function 35 -/
def spigotref38_within.f (a0_0 : Int) (a0_1 : Int) (a1 : Int) (a2 : Int) : Option (Bool) := some (decide ((IntKind.u64.wrap (a2 - a1)) < (IntKind.u64.wrap (a0_1))))
set_option maxHeartbeats 8000000 in
set_option maxRecDepth 100000 in
theorem spigotref38_within.calls (a0_0 : Int) (a0_1 : Int) (a1 : Int) (a2 : Int) (r : Bool) (w : World) (h : spigotref38_within.f a0_0 a0_1 a1 a2 = some r) :
  Calls Try.prog 35 #[.agg #[.int .i64 a0_0, .int .i64 a0_1], .int .u64 a1, .int .u64 a2] w fun e w' => e = .returned (.bool r) ∧ Below w.heap.size w w' := by
 have hu23 := Try.underlying23
 have HB := Aside0.mk (Below.refl w.heap.size w)
 have H : (some (decide ((IntKind.u64.wrap (a2 - a1)) < (IntKind.u64.wrap (a0_1))))) = some r := h
 clear h
 obtain rfl := Option.some.inj H
 go_enter Try.func35, Try.ntmps35
 go_wp2_with (first | ((with_reducible refine gate_dst (N := 3) rfl ?_); refine bx_ #[.int .i64 a0_0, .int .i64 a0_1] 23 ?_; intro gb165 hg w4 BK165 hb; have GW165 := bz_ w hg; replace HB := bs_ w hb; clear hb hg; replace hc165 := ce2_ BK165))
 go_ret
 exact fi_

end Go.Proofs.Ytjjmnafhaneflaa.X
