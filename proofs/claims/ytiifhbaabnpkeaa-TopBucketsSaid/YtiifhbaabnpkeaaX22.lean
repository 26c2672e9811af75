-- written by xprint.py, a program of this session over the kit's print
import Derived.Test.YtiifhbaabnpkeaaX0
namespace Go.Proofs.Ytiifhbaabnpkeaa.X
open Go.RowKit Go.Proofs.YtiifhbaabnpkeaaW.PrintWords Go.Proofs.YtiifhbaabnpkeaaW.PrintLast Go.Proofs.YtiifhbaabnpkeaaW.PrintMore
attribute [local go_sem] max2_int min2_int max_two min_two max_three min_three max_four min_four   -- for this text's walks alone
set_option linter.unusedVariables false
set_option linter.unusedSimpArgs false

/-! ### bits_Sub64: function 51 -/
def bits_Sub64.f (a0 : Int) (a1 : Int) (a2 : Int) : Option (Int × Int) := if 0 ≤ a0 ∧ 0 ≤ a1 ∧ a1 < 18446744073709551616 ∧ 0 ≤ a2 ∧ a2 ≤ 1 then some ((a0 - a1 - a2) % 18446744073709551616, if a0 < a1 + a2 then 1 else 0) else none
def bits_Sub64.entry : Array Value → Sem Value := fun args => do
  let (x, y, b) ← Extern.MathBitsCarry.three "Sub64" args
  pure (Extern.MathBitsCarry.pair ((x + Extern.MathBitsCarry.m64 - y - b) % Extern.MathBitsCarry.m64) (if x < y + b then 1 else 0))
theorem bits_Sub64.run (x y b : Nat) (hb : b ≤ 1) (w : World) :
    (bits_Sub64.entry #[.int .u64 x, .int .u64 y, .int .u64 b]).run Try.prog w =
      .ok (.tuple #[.int .u64 (((x + 18446744073709551616 - y - b) % 18446744073709551616 : Nat) : Int), .int .u64 ((if x < y + b then 1 else 0 : Nat) : Int)]) w := by
  have : b = 0 ∨ b = 1 := by omega
  rcases this with rfl | rfl <;> rfl
theorem bits_Sub64.calls (a0 : Int) (a1 : Int) (a2 : Int) (r1 : Int) (r2 : Int) (w : World) (h : bits_Sub64.f a0 a1 a2 = some (r1, r2)) :
    CallsX Try.prog 51 #[.int .u64 a0, .int .u64 a1, .int .u64 a2] w fun e w' => e = .returned (.tuple #[.int .u64 r1, .int .u64 r2]) ∧ Drawn0 w w' := by
  unfold bits_Sub64.f at h
  split at h
  case isFalse => cases h
  rename_i hu
  obtain ⟨h0, h1, h1', h2, h3⟩ := hu
  simp only [Option.some.injEq, Prod.mk.injEq] at h
  obtain ⟨rfl, rfl⟩ := h
  refine ⟨_, w, ?_, rfl, Drawn0.refl _⟩
  obtain ⟨x, rfl⟩ := Int.eq_ofNat_of_zero_le h0
  obtain ⟨y, rfl⟩ := Int.eq_ofNat_of_zero_le h1
  obtain ⟨b, rfl⟩ := Int.eq_ofNat_of_zero_le h2
  have e1 : ((x : Int) - y - b) % 18446744073709551616 = (((x + 18446744073709551616 - y - b) % 18446744073709551616 : Nat) : Int) := by omega
  have e2 : (if (x : Int) < y + b then 1 else 0 : Int) = ((if x < y + b then 1 else 0 : Nat) : Int) := by split <;> split <;> omega
  rw [e1, e2, run_callFunc_extern Try.func51 (by kernel_rfl) (by kernel_rfl) (by kernel_rfl) (e := bits_Sub64.entry) (by kernel_rfl), bits_Sub64.run x y b (by omega)]
  rfl

/-! ### wide_Sub: function 46 -/
def wide_Sub.f (a0_0 : Int) (a0_1 : Int) (a1_0 : Int) (a1_1 : Int) : Option (Int × Int × Int) := (bits_Sub64.f a0_1 a1_1 0).bind fun bt285 => ((bits_Sub64.f a0_0 a1_0 bt285.2).bind fun bt287 => (if bt287.2 = 0 then (some (bt287.1, bt285.1, 0)) else (some (0, 0, 16))))
set_option maxHeartbeats 8000000 in
set_option maxRecDepth 100000 in
theorem wide_Sub.calls (a0_0 : Int) (a0_1 : Int) (a1_0 : Int) (a1_1 : Int) (r1 : Int) (r2 : Int) (r3 : Int) (w : World) (h : wide_Sub.f a0_0 a0_1 a1_0 a1_1 = some (r1, r2, r3)) :
  Calls Try.prog 46 #[.agg #[.int .u64 a0_0, .int .u64 a0_1], .agg #[.int .u64 a1_0, .int .u64 a1_1]] w fun e w' => e = .returned (.tuple #[.agg #[.int .u64 r1, .int .u64 r2], .int .i64 r3]) ∧ Below w.heap.size w w' := by
 have hu59 := Try.underlying59
 have HB := Aside0.mk (Below.refl w.heap.size w)
 have H : ((bits_Sub64.f a0_1 a1_1 0).bind fun bt285 => ((bits_Sub64.f a0_0 a1_0 bt285.2).bind fun bt287 => (if bt287.2 = 0 then (some (bt287.1, bt285.1, 0)) else (some (0, 0, 16))))) = some (r1, r2, r3) := h
 clear h
 have H0_ := bo_ H; clear H; obtain ⟨⟨t285, t286⟩, A3, H⟩ := H0_
 replace H : ((bits_Sub64.f a0_0 a1_0 t286).bind fun bt287 => (if bt287.2 = 0 then (some (bt287.1, t285, 0)) else (some (0, 0, 16)))) = some (r1, r2, r3) := H
 have H0_ := bo_ H; clear H; obtain ⟨⟨t287, t288⟩, A4, H⟩ := H0_
 replace H : (if t288 = 0 then (some (t287, t285, 0)) else (some (0, 0, 16))) = some (r1, r2, r3) := H
 by_cases c5 : t288 = 0
 ·rw [if_pos c5] at H
  have c5b0 : (t288 == 0) = true := beq_iff_eq.mpr c5
  have c5b1 : (t288 != 0) = false := bne_eq_false_iff_eq.mpr c5
  clear c5
  simp only [Option.some.injEq, Prod.mk.injEq] at H
  obtain ⟨rfl, rfl, rfl⟩ := H
  go_enter Try.func46, Try.ntmps46
  go_wp2_with (first | ((with_reducible refine gate_dst (N := 2) rfl ?_); refine bx_ #[.int .u64 a0_0, .int .u64 a0_1] 59 ?_; intro gb282 hg w6 BK282 hb; have GW282 := bz_ w hg; have GE282 := GW282; replace HB := bs_ w hb; clear hb hg) | ((with_reducible refine gate_dst (N := 3) rfl ?_); refine bx_ #[.int .u64 a1_0, .int .u64 a1_1] 59 ?_; intro gb283 hg w7 BK283 hb; have GW283 := bz_ w hg; have GE283 := GW283; have NB282_283 := bn_ BK282 hg; have NB283_282 := bm_ BK282 hg; replace BK282 := bb_ BK282 hb; replace HB := bs_ w hb; clear hb hg) | ((with_reducible refine gate_dst (N := 4) rfl ?_); refine bx_ #[.int .u64 0, .int .u64 0] 59 ?_; intro gb284 hg w8 BK284 hb; have GW284 := bz_ w hg; have GE284 := GW284; have NB282_284 := bn_ BK282 hg; have NB284_282 := bm_ BK282 hg; have NB283_284 := bn_ BK283 hg; have NB284_283 := bm_ BK283 hg; replace BK282 := bb_ BK282 hb; replace BK283 := bb_ BK283 hb; replace HB := bs_ w hb; clear hb hg; replace hn282_283 := NB282_283.out; replace hn283_282 := NB283_282.out; replace hn282_284 := NB282_284.out; replace hn284_282 := NB284_282.out; replace hc282 := ce2_ BK282; replace hn283_284 := NB283_284.out; replace hn284_283 := NB284_283.out; replace hc283 := ce2_ BK283) | ((with_reducible refine gate_callee (f := 51) rfl ?_); refine goesXL_ (some 15) rfl rfl #[.int .u64 a0_1, .int .u64 a1_1, .int .u64 0] rfl (by (try simp only [List.map_toArray, List.map_cons, List.map_nil]); first | done | rfl | (simp only [List.length_drop, List.length_take]; rfl)) ?_; (with_reducible refine (bits_Sub64.calls a0_1 a1_1 0 t285 t286 _ A3.out).mono ?_); rintro e w' ⟨rfl, ⟨nd, rfl⟩⟩; refine ⟨_, rfl, ?_⟩; (try ((first | generalize hq_ : World.drewN w8 _ = w8 | (rw [drewN_self w8]; generalize hq_ : World.drewN w8 _ = w8)); replace BK282 : Aside0 (w8.heap[gb282]? = some (.cells #[.int .u64 a0_0, .int .u64 a0_1] 59 (0, 0))) := ⟨by rw [← hq_]; exact (bq_ BK282)⟩; replace BK283 : Aside0 (w8.heap[gb283]? = some (.cells #[.int .u64 a1_0, .int .u64 a1_1] 59 (0, 0))) := ⟨by rw [← hq_]; exact (bq_ BK283)⟩; replace BK284 : Aside0 (w8.heap[gb284]? = some (.cells #[.int .u64 0, .int .u64 0] 59 (0, 0))) := ⟨by rw [← hq_]; exact (bq_ BK284)⟩; replace HB : Aside0 (Below w.heap.size w w8) := ⟨by rw [← hq_]; exact bh_⟩; clear hq_)); replace hc282 := ce2_ BK282; replace hc283 := ce2_ BK283) | ((with_reducible refine gate_callee (f := 51) rfl ?_); refine goesXL_ (some 24) rfl rfl #[.int .u64 a0_0, .int .u64 a1_0, .int .u64 t286] rfl (by (try simp only [List.map_toArray, List.map_cons, List.map_nil]); first | done | rfl | (simp only [List.length_drop, List.length_take]; rfl)) ?_; (with_reducible refine (bits_Sub64.calls a0_0 a1_0 t286 t287 t288 _ A4.out).mono ?_); rintro e w' ⟨rfl, ⟨nd, rfl⟩⟩; refine ⟨_, rfl, ?_⟩; (try ((first | generalize hq_ : World.drewN w8 _ = w8 | (rw [drewN_self w8]; generalize hq_ : World.drewN w8 _ = w8)); replace BK282 : Aside0 (w8.heap[gb282]? = some (.cells #[.int .u64 a0_0, .int .u64 a0_1] 59 (0, 0))) := ⟨by rw [← hq_]; exact (bq_ BK282)⟩; replace BK283 : Aside0 (w8.heap[gb283]? = some (.cells #[.int .u64 a1_0, .int .u64 a1_1] 59 (0, 0))) := ⟨by rw [← hq_]; exact (bq_ BK283)⟩; replace BK284 : Aside0 (w8.heap[gb284]? = some (.cells #[.int .u64 0, .int .u64 0] 59 (0, 0))) := ⟨by rw [← hq_]; exact (bq_ BK284)⟩; replace HB : Aside0 (Below w.heap.size w w8) := ⟨by rw [← hq_]; exact bh_⟩; clear hq_)); replace hc284 := ce2_ BK284))
  refine bodyPost_ret (results_ct rfl _ _ gb284 59 #[.int .u64 t287, .int .u64 t285] (0, 0) _ rfl (bp2_ (bq_ BK284)) Try.underlying59 rfl (by kernel_rfl)) rfl ?_
  exact fi_
 ·rw [if_neg c5] at H
  have c5b0 : (t288 == 0) = false := beq_eq_false_iff_ne.mpr c5
  have c5b1 : (t288 != 0) = true := bne_iff_ne.mpr c5
  simp only [Option.some.injEq, Prod.mk.injEq] at H
  obtain ⟨rfl, rfl, rfl⟩ := H
  go_enter Try.func46, Try.ntmps46
  go_wp2_with (first | ((with_reducible refine gate_dst (N := 2) rfl ?_); refine bx_ #[.int .u64 a0_0, .int .u64 a0_1] 59 ?_; intro gb282 hg w17 BK282 hb; have GW282 := bz_ w hg; have GE282 := GW282; replace HB := bs_ w hb; clear hb hg) | ((with_reducible refine gate_dst (N := 3) rfl ?_); refine bx_ #[.int .u64 a1_0, .int .u64 a1_1] 59 ?_; intro gb283 hg w18 BK283 hb; have GW283 := bz_ w hg; have GE283 := GW283; have NB282_283 := bn_ BK282 hg; have NB283_282 := bm_ BK282 hg; replace BK282 := bb_ BK282 hb; replace HB := bs_ w hb; clear hb hg) | ((with_reducible refine gate_dst (N := 4) rfl ?_); refine bx_ #[.int .u64 0, .int .u64 0] 59 ?_; intro gb284 hg w19 BK284 hb; have GW284 := bz_ w hg; have GE284 := GW284; have NB282_284 := bn_ BK282 hg; have NB284_282 := bm_ BK282 hg; have NB283_284 := bn_ BK283 hg; have NB284_283 := bm_ BK283 hg; replace BK282 := bb_ BK282 hb; replace BK283 := bb_ BK283 hb; replace HB := bs_ w hb; clear hb hg; replace hn282_283 := NB282_283.out; replace hn283_282 := NB283_282.out; replace hn282_284 := NB282_284.out; replace hn284_282 := NB284_282.out; replace hc282 := ce2_ BK282; replace hn283_284 := NB283_284.out; replace hn284_283 := NB284_283.out; replace hc283 := ce2_ BK283) | ((with_reducible refine gate_callee (f := 51) rfl ?_); refine goesXL_ (some 15) rfl rfl #[.int .u64 a0_1, .int .u64 a1_1, .int .u64 0] rfl (by (try simp only [List.map_toArray, List.map_cons, List.map_nil]); first | done | rfl | (simp only [List.length_drop, List.length_take]; rfl)) ?_; (with_reducible refine (bits_Sub64.calls a0_1 a1_1 0 t285 t286 _ A3.out).mono ?_); rintro e w' ⟨rfl, ⟨nd, rfl⟩⟩; refine ⟨_, rfl, ?_⟩; (try ((first | generalize hq_ : World.drewN w19 _ = w19 | (rw [drewN_self w19]; generalize hq_ : World.drewN w19 _ = w19)); replace BK282 : Aside0 (w19.heap[gb282]? = some (.cells #[.int .u64 a0_0, .int .u64 a0_1] 59 (0, 0))) := ⟨by rw [← hq_]; exact (bq_ BK282)⟩; replace BK283 : Aside0 (w19.heap[gb283]? = some (.cells #[.int .u64 a1_0, .int .u64 a1_1] 59 (0, 0))) := ⟨by rw [← hq_]; exact (bq_ BK283)⟩; replace BK284 : Aside0 (w19.heap[gb284]? = some (.cells #[.int .u64 0, .int .u64 0] 59 (0, 0))) := ⟨by rw [← hq_]; exact (bq_ BK284)⟩; replace HB : Aside0 (Below w.heap.size w w19) := ⟨by rw [← hq_]; exact bh_⟩; clear hq_)); replace hc282 := ce2_ BK282; replace hc283 := ce2_ BK283) | ((with_reducible refine gate_callee (f := 51) rfl ?_); refine goesXL_ (some 24) rfl rfl #[.int .u64 a0_0, .int .u64 a1_0, .int .u64 t286] rfl (by (try simp only [List.map_toArray, List.map_cons, List.map_nil]); first | done | rfl | (simp only [List.length_drop, List.length_take]; rfl)) ?_; (with_reducible refine (bits_Sub64.calls a0_0 a1_0 t286 t287 t288 _ A4.out).mono ?_); rintro e w' ⟨rfl, ⟨nd, rfl⟩⟩; refine ⟨_, rfl, ?_⟩; (try ((first | generalize hq_ : World.drewN w19 _ = w19 | (rw [drewN_self w19]; generalize hq_ : World.drewN w19 _ = w19)); replace BK282 : Aside0 (w19.heap[gb282]? = some (.cells #[.int .u64 a0_0, .int .u64 a0_1] 59 (0, 0))) := ⟨by rw [← hq_]; exact (bq_ BK282)⟩; replace BK283 : Aside0 (w19.heap[gb283]? = some (.cells #[.int .u64 a1_0, .int .u64 a1_1] 59 (0, 0))) := ⟨by rw [← hq_]; exact (bq_ BK283)⟩; replace BK284 : Aside0 (w19.heap[gb284]? = some (.cells #[.int .u64 0, .int .u64 0] 59 (0, 0))) := ⟨by rw [← hq_]; exact (bq_ BK284)⟩; replace HB : Aside0 (Below w.heap.size w w19) := ⟨by rw [← hq_]; exact bh_⟩; clear hq_)); replace hc284 := ce2_ BK284))
  refine bodyPost_ret (results_ct rfl _ _ gb284 59 #[.int .u64 0, .int .u64 0] (0, 0) _ rfl (bp2_ (bq_ BK284)) Try.underlying59 rfl (by kernel_rfl)) rfl ?_
  exact fi_

end Go.Proofs.Ytiifhbaabnpkeaa.X
