-- written by xprint.py, a program of this session over the kit's print
import Derived.Test.YtjjmnafhaneflaaX0
import Derived.Test.YtjjmnafhaneflaaX6
import Derived.Test.YtjjmnafhaneflaaX7
import Derived.Test.YtjjmnafhaneflaaX18
namespace Go.Proofs.Ytjjmnafhaneflaa.X
open Go.RowKit Go.Proofs.YtjjmnafhaneflaaW.PrintWords Go.Proofs.YtjjmnafhaneflaaW.PrintLast Go.Proofs.YtjjmnafhaneflaaW.PrintMore
attribute [local go_sem] max2_int min2_int max_two min_two max_three min_three max_four min_four   -- for this text's walks alone
set_option linter.unusedVariables false
set_option linter.unusedSimpArgs false

/-! ### window_Fixed: function 15 -/
set_option maxHeartbeats 8000000 in
set_option maxRecDepth 100000 in
theorem window_Fixed.lit (x t cap span bx bt : Int) (g : Nat) (w : World) (h0 : w.cell? ⟨g, 0, none⟩ = some (.int .i64 cap)) (h1 : w.cell? ⟨g, 1, none⟩ = some (.int .i64 span)) (hx : window_begin.f cap span x = some bx) (ht : window_begin.f cap span t = some bt) :
  Calls Try.prog 37 #[.int .u64 x, .int .u64 t, .pointer (some ⟨g, 0, none⟩)] w fun e w' => e = .returned (.bool (bx == bt)) ∧ Below w.heap.size w w' := by
  have hu := Try.underlying23
  have HB := Aside0.mk (Below.refl w.heap.size w)
  have H0 := Aside0.mk h0
  have H1 := Aside0.mk h1
  clear h0 h1
  go_enter Try.func37, Try.ntmps37
  go_wp2
  replace HB := Aside0.mk (below_drew1 HB.out)
  refine start_ (n := 8) (S := fun w' => w'.cell? ⟨g, 0, none⟩ = some (.int .i64 cap) ∧ w'.cell? ⟨g, 1, none⟩ = some (.int .i64 span)) (ds := []) (bl_ 8 0) (by kernel_rfl) rfl (by kernel_rfl) ⟨H0.out, H1.out⟩ (fun hHeld => ?_)
  refine with_tabW (T := rtab .any (opsOf Try.f37 1)) (B := [0, 0, 3, 0, 0, 31, 63, 127]) rfl (by kernel_rfl) (fun HT_ HW_ => ?_)
  generalize w.drew = w8 at HB hHeld ⊢
  refine pa_ 1 (some 7) (bl_ 8 2) HT_ ?_
  refine pa_ 4 (some 10) (bl_ 8 18) HT_ ?_
  refine ta_ 0 (some 6) (bl_ 8 19) HT_ HW_ hHeld ?_
  refine ta_ 3 (some 9) (bl_ 8 27) HT_ HW_ hHeld ?_
  refine oa_ 2 (some 8) (bl_ 8 31) HT_ fun K hK => ?_
  refine goesB_ Try.func30 #[.agg #[.int .i64 cap, .int .i64 span], .int .u64 x] ?_
  refine (window_begin.calls cap span x bx _ hx).mono ?_
  rintro e w9 ⟨rfl, hb⟩
  refine ⟨_, rfl, ?_⟩
  have g0 := (hb.cell (World.block_lt_of_cell? _ _ hHeld.1)).trans hHeld.1
  have g1 := (hb.cell (World.block_lt_of_cell? _ _ hHeld.2)).trans hHeld.2
  replace HB := bs_ w hb
  clear hb hHeld
  refine hK.out _ _ ⟨g0, g1⟩ (fun hHeld => ?_)
  clear hK K g0 g1
  refine nm_ (some 8) ?_
  refine oa_ 5 (some 11) (bl_ 8 63) HT_ fun K hK => ?_
  refine goesB_ Try.func30 #[.agg #[.int .i64 cap, .int .i64 span], .int .u64 t] ?_
  refine (window_begin.calls cap span t bt _ ht).mono ?_
  rintro e w10 ⟨rfl, hb⟩
  refine ⟨_, rfl, ?_⟩
  have g0 := (hb.cell (World.block_lt_of_cell? _ _ hHeld.1)).trans hHeld.1
  have g1 := (hb.cell (World.block_lt_of_cell? _ _ hHeld.2)).trans hHeld.2
  replace HB := bs_ w hb
  clear hb hHeld
  refine hK.out _ _ ⟨g0, g1⟩ (fun hHeld => ?_)
  clear hK K g0 g1
  refine nm_ (some 11) ?_
  refine pa_ 6 (some 12) (bl_ 8 127) HT_ ?_
  refine pa_ 7 (some 5) (bl_ 8 255) HT_ ?_
  refine done_ (done_of HT_.out (by kernel_rfl)) ?_
  go_wp2
  go_ret
  exact ⟨rfl, HB.out⟩
theorem window_Fixed.own {a0_0 a0_1 : Int} {l1 : List S58} (gw : Nat) (w : World) (h0 : w.cell? ⟨gw, 0, none⟩ = some (.int .i64 a0_0)) (h1 : w.cell? ⟨gw, 1, none⟩ = some (.int .i64 a0_1)) (OK : 1 ≤ a0_0 ∧ a0_0 ≤ 1000000000 ∧ 1 ≤ a0_1 ∧ a0_1 ≤ 1000000000 ∧ l1.length ≤ 1000 ∧ okB l1 0 = true) {i : Nat} (hi : i < l1.length) {y : S58} (hy : y ∈ l1.take i) :
  Calls Try.prog 37 (#[.int .u64 l1[i].f0, .int .u64 y.f0] ++ #[.pointer (some ⟨gw, 0, none⟩)]) w fun e w'' => e = .returned (.bool (inF a0_1 l1[i].f0 y.f0)) ∧ Below w.heap.size w w'' := by
  obtain ⟨s1, s2⟩ := okB_spec OK.2.2.2.2.2
  have b1 := s1 _ (List.getElem_mem hi)
  have b2 := s1 y (List.mem_of_mem_take hy)
  have b3 := s2 i hi y hy
  have eb : ∀ z : Int, 0 ≤ z → z < 18446744073709551616 → window_begin.f a0_0 a0_1 z = some (bg a0_1 z) := by
    intro z z0 z1
    unfold window_begin.f
    have ew : IntKind.u64.wrap a0_1 = a0_1 := wrapU (by omega) (by omega)
    rw [ew, if_neg (by omega), Int.tmod_eq_emod_of_nonneg z0]
    have h2 := Int.emod_nonneg z (by omega : a0_1 ≠ 0)
    have h3 := Int.emod_lt_of_pos z (by omega : 0 < a0_1)
    have h4 := Int.emod_add_mul_ediv z a0_1
    have h5 := Int.mul_nonneg (by omega : 0 ≤ a0_1) (Int.ediv_nonneg z0 (by omega : 0 ≤ a0_1))
    rw [wrapU (by omega) (by omega)]
    rfl
  refine (window_Fixed.lit l1[i].f0 y.f0 a0_0 a0_1 _ _ gw w h0 h1 (eb _ (by omega) (by omega)) (eb _ (by omega) (by omega))).mono fun e' w' ⟨h, hw⟩ => ?_
  refine ⟨?_, hw⟩
  rw [h]
  congr 2
def window_Fixed.f (k : Nat) (a0_0 : Int) (a0_1 : Int) (l1 : List (S58)) : Option (List (S58) × Int) := (window_both.f k a0_0 a0_1 l1).bind fun e => if e = 0 then (if okW a0_0 a0_1 l1 = true then some (adm a0_0 (inF a0_1) l1 [], 0) else none) else some (([] : List (S58)), e)
theorem window_Fixed.mono : ∀ a0 a1 a2 k, LeO (window_Fixed.f k a0 a1 a2) (window_Fixed.f (k + 1) a0 a1 a2) := by
  intro a0 a1 a2 k
  unfold window_Fixed.f
  exact LeO.bind (window_both.mono _ _ _ _) (fun _ => LeO.refl _)
set_option maxHeartbeats 8000000 in
set_option maxRecDepth 100000 in
theorem window_Fixed.calls (k : Nat) (a0_0 : Int) (a0_1 : Int) (A1 : Option Addr) (c1 : Nat) (l1 : List (S58)) (r1 : List (S58)) (r2 : Int) (w : World) (hr1 : Kd.C k58 w A1 l1.length l1) (hc1 : l1.length ≤ c1) (h : window_Fixed.f k a0_0 a0_1 l1 = some (r1, r2)) :
  Calls Try.prog 15 #[.agg #[.int .i64 a0_0, .int .i64 a0_1], .slice A1 l1.length c1] w fun e w' => ∃ v0_ : Value, e = .returned (.tuple #[v0_, .int .i64 r2]) ∧ Kd.R k58 58 w' w.heap.size (fun _ => True) v0_ r1 ∧ Below w.heap.size w w' := by
 have hu1 := Try.underlying23
 have hu2 := Try.underlying58
 have HR1 := Aside0.mk hr1
 have HC1 := Aside0.mk hc1
 clear hr1 hc1
 have HB := Aside0.mk (Below.refl w.heap.size w)
 unfold window_Fixed.f at h
 obtain ⟨t, A3, H⟩ := bo_ h
 clear h
 by_cases c4 : t = 0
 ·rw [if_pos c4] at H
  by_cases c5 : okW a0_0 a0_1 l1 = true
  ·rw [if_pos c5] at H
   simp only [Option.some.injEq, Prod.mk.injEq] at H
   obtain ⟨rfl, rfl⟩ := H
   have c4b0 : (t == 0) = true := beq_iff_eq.mpr c4
   have c4b1 : (t != 0) = false := bne_eq_false_iff_eq.mpr c4
   clear c4
   have OK := Aside0.mk (okW_spec c5)
   clear c5
   go_enter Try.func15, Try.ntmps15
   go_wp2_with (first | ((with_reducible refine gate_dst (N := 2) rfl ?_); refine bx_ #[.int .i64 a0_0, .int .i64 a0_1] 23 ?_; intro gw hg w5 BKw hb; have GWw := bz_ w hg; replace HB := bs_ w hb; clear hb hg; replace hcw := ce2_ BKw) | ((with_reducible refine gate_callee (f := 29) rfl ?_); refine goesA_ (some 9) Try.func29 #[.agg #[.int .i64 a0_0, .int .i64 a0_1], .slice A1 l1.length c1] ?_; (with_reducible refine (window_both.calls k a0_0 a0_1 _ _ l1 t _ ?side1 ?side2 A3.out).mono ?_); (case side1 => exact cs_ HR1 HB); (case side2 => exact HC1.out); rintro e w7 ⟨rfl, hb⟩; refine ⟨_, rfl, ?_⟩; replace BKw := bb_ BKw hb; replace HB := bs_ w hb; clear hb; replace hcw := ce2_ BKw) | ((with_reducible refine gate_callee (f := 36) rfl ?_); refine goesA_ (some 16) Try.func36 #[.agg #[.int .i64 a0_0, .int .i64 a0_1], .slice A1 l1.length c1, .func (.func 37) #[] #[.pointer (some ⟨gw, 0, none⟩)]] ?_; (refine (window_admitted.run (inF a0_1) 37 Try.f37 #[.pointer (some ⟨gw, 0, none⟩)] Try.func37 (by kernel_rfl) rfl a0_0 a0_1 _ _ l1 _ ?side3 OK.out.2.2.2.2.1 (fun x hx => ((okB_spec OK.out.2.2.2.2.2).1 x hx).2.2) ?side4).mono ?_); (case side3 => exact cs_ HR1 HB); (case side4 => exact fun w' i hi y hy hb => window_Fixed.own gw w' ((blk_cell (bb_ BKw hb).out 0).trans rfl) ((blk_cell (bb_ BKw hb).out 1).trans rfl) OK.out hi hy); rintro e w8 ⟨v8, rfl, ho, hb⟩; refine ⟨_, rfl, ?_⟩; have HO := Aside0.mk (Kd.R_lower ho (below_size HB.out)); replace HB := bs_ w hb; clear ho hb))
   go_ret2
   exact ⟨_, rfl, rs_ HO, bh_⟩
  ·rw [if_neg c5] at H; exact absurd H (by simp)
 ·rw [if_neg c4] at H
  simp only [Option.some.injEq, Prod.mk.injEq] at H
  obtain ⟨rfl, rfl⟩ := H
  have c4b0 : (t == 0) = false := beq_eq_false_iff_ne.mpr c4
  have c4b1 : (t != 0) = true := bne_iff_ne.mpr c4
  clear c4
  go_enter Try.func15, Try.ntmps15
  go_wp2_with (first | ((with_reducible refine gate_dst (N := 2) rfl ?_); refine bx_ #[.int .i64 a0_0, .int .i64 a0_1] 23 ?_; intro gw hg w5 BKw hb; have GWw := bz_ w hg; replace HB := bs_ w hb; clear hb hg; replace hcw := ce2_ BKw) | ((with_reducible refine gate_callee (f := 29) rfl ?_); refine goesA_ (some 9) Try.func29 #[.agg #[.int .i64 a0_0, .int .i64 a0_1], .slice A1 l1.length c1] ?_; (with_reducible refine (window_both.calls k a0_0 a0_1 _ _ l1 t _ ?side1 ?side2 A3.out).mono ?_); (case side1 => exact cs_ HR1 HB); (case side2 => exact HC1.out); rintro e w7 ⟨rfl, hb⟩; refine ⟨_, rfl, ?_⟩; replace BKw := bb_ BKw hb; replace HB := bs_ w hb; clear hb; replace hcw := ce2_ BKw))
  go_ret2
  exact ⟨_, rfl, Kd.R_nil _ _ _ _ _, bh_⟩

end Go.Proofs.Ytjjmnafhaneflaa.X
