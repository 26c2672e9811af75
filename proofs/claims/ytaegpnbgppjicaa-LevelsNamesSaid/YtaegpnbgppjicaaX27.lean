-- written by xprint.py, a program of this session over the kit's print
import Derived.Test.YtaegpnbgppjicaaX0
import Derived.Test.YtaegpnbgppjicaaX3
import Derived.Test.YtaegpnbgppjicaaX16
namespace Go.Proofs.Ytaegpnbgppjicaa.X
open Go.RowKit Go.Proofs.YtaegpnbgppjicaaW.PrintWords Go.Proofs.YtaegpnbgppjicaaW.PrintLast Go.Proofs.YtaegpnbgppjicaaW.PrintMore
attribute [local go_sem] max2_int min2_int max_two min_two max_three min_three max_four min_four   -- for this text's walks alone
set_option linter.unusedVariables false
set_option linter.unusedSimpArgs false

/-! ### spigotlaw04_fit: function 16 -/
def spigotlaw04_fit.f (k : Nat) (l0 : List (S37)) : Option (Bool) := (spigotref04_Great.f l0).bind fun t297 => (if t297 = true then (some false) else ((spigotref04_Check.f k l0).bind fun t298 => (some (t298 == 0))))
theorem spigotlaw04_fit.mono : ∀ a0 k, LeO (spigotlaw04_fit.f k a0) (spigotlaw04_fit.f (k + 1) a0) := by
  intro a0 k
  unfold spigotlaw04_fit.f
  repeat' first
      | (with_reducible exact spigotref04_Check.mono _ _)
      | (with_reducible exact LeO.refl _)
      | (with_reducible exact LeO.none _)
      | (with_reducible refine LeO.ite ?_ ?_)
      | (with_reducible refine LeO.bind ?_ (fun _ => ?_))
      | exact spigotref04_Check.mono _ _
      | exact LeO.none _
      | refine LeO.ite ?_ ?_
      | refine LeO.bind ?_ (fun _ => ?_)
set_option maxHeartbeats 8000000 in
set_option maxRecDepth 100000 in
theorem spigotlaw04_fit.calls (k : Nat) (A0 : Option Addr) (c0 : Nat) (l0 : List (S37)) (r : Bool) (w : World) (hr0 : Kd.C k37 w A0 l0.length l0) (hc0 : l0.length ≤ c0) (h : spigotlaw04_fit.f k l0 = some r) :
  Calls Try.prog 16 #[.slice A0 l0.length c0] w fun e w' => e = .returned (.bool r) ∧ Below w.heap.size w w' := by
 have HR0 := Aside0.mk hr0
 have HC0 := Aside0.mk hc0
 clear hr0 hc0
 have HB := Aside0.mk (Below.refl w.heap.size w)
 have H : ((spigotref04_Great.f l0).bind fun t297 => (if t297 = true then (some false) else ((spigotref04_Check.f k l0).bind fun t298 => (some (t298 == 0))))) = some r := h
 clear h
 have H0_ := bo_ H; clear H; obtain ⟨t297, A2, H⟩ := H0_
 replace H : (if t297 = true then (some false) else ((spigotref04_Check.f k l0).bind fun t298 => (some (t298 == 0)))) = some r := H
 by_cases c3 : t297 = true
 ·subst c3
  replace H : (some false) = some r := by rw [if_pos rfl] at H; exact H
  obtain rfl := Option.some.inj H
  go_enter Try.func16, Try.ntmps16
  go_wp2_with (first | ((with_reducible refine gate_callee (f := 10) rfl ?_); (try refine ug_ (by rfl) ?_); refine goesA_ (some 4) Try.func10 #[.slice A0 l0.length c0] ?_; (with_reducible refine (spigotref04_Great.calls _ _ l0 true _ ?side1 ?side2 A2.out).mono ?_); (case side1 => exact ch_ HR0); (case side2 => exact HC0.out); rintro e w' ⟨rfl, ⟨nd, rfl⟩⟩; refine ⟨_, rfl, ?_⟩))
  go_ret
  exact fi_
 ·replace c3 := Bool.eq_false_iff.mpr c3
  subst c3
  rw [if_neg (show ¬ (false = true) by decide)] at H
  try dsimp only at H
  have H0_ := bo_ H; clear H; obtain ⟨t298, A4, H⟩ := H0_
  replace H : (some (t298 == 0)) = some r := H
  obtain rfl := Option.some.inj H
  go_enter Try.func16, Try.ntmps16
  go_wp2_with (first | ((with_reducible refine gate_callee (f := 10) rfl ?_); (try refine ug_ (by rfl) ?_); refine goesA_ (some 4) Try.func10 #[.slice A0 l0.length c0] ?_; (with_reducible refine (spigotref04_Great.calls _ _ l0 false _ ?side1 ?side2 A2.out).mono ?_); (case side1 => exact ch_ HR0); (case side2 => exact HC0.out); rintro e w' ⟨rfl, ⟨nd, rfl⟩⟩; refine ⟨_, rfl, ?_⟩) | (go_at_call 27; (with_reducible refine (spigotref04_Check.calls k _ _ l0 t298 _ ?side1 ?side2 A4.out).mono ?_); (case side1 => exact ch_ HR0); (case side2 => exact HC0.out); rintro e w5 ⟨rfl, hb⟩; replace HB := bs_ w hb; clear hb))
  go_ret
  exact fi_

/-! ### bits_Sub64: function 61 -/
def bits_Sub64.f (a0 : Int) (a1 : Int) (a2 : Int) : Option (Int × Int) := if 0 ≤ a0 ∧ 0 ≤ a1 ∧ a1 < 18446744073709551616 ∧ 0 ≤ a2 ∧ a2 ≤ 1 then some ((a0 - a1 - a2) % 18446744073709551616, if a0 < a1 + a2 then 1 else 0) else none
def bits_Sub64.entry : Array Value → Sem Value := fun args => do
  let (x, y, b) ← Extern.MathBitsCarry.three "Sub64" args
  pure (Extern.MathBitsCarry.pair ((x + Extern.MathBitsCarry.m64 - y - b) % Extern.MathBitsCarry.m64) (if x < y + b then 1 else 0))
theorem bits_Sub64.run (x y b : Nat) (hb : b ≤ 1) (w : World) :
    (bits_Sub64.entry #[.int .u64 x, .int .u64 y, .int .u64 b]).run Try.prog w =
      .ok (.tuple #[.int .u64 (((x + 18446744073709551616 - y - b) % 18446744073709551616 : Nat) : Int), .int .u64 ((if x < y + b then 1 else 0 : Nat) : Int)]) w := by
  have : b = 0 ∨ b = 1 := by omega
  rcases this with rfl | rfl <;> rfl
theorem bits_Sub64.calls (a0 : Int) (a1 : Int) (a2 : Int) (r1 : Int) (r2 : Int) (w : World) (h : bits_Sub64.f a0 a1 a2 = some (r1, r2)) :
    CallsX Try.prog 61 #[.int .u64 a0, .int .u64 a1, .int .u64 a2] w fun e w' => e = .returned (.tuple #[.int .u64 r1, .int .u64 r2]) ∧ Drawn0 w w' := by
  unfold bits_Sub64.f at h
  split at h
  case isFalse => cases h
  rename_i hu
  obtain ⟨h0, h1, h1', h2, h3⟩ := hu
  simp only [Option.some.injEq, Prod.mk.injEq] at h
  obtain ⟨rfl, rfl⟩ := h
  refine ⟨_, w, ?_, rfl, Drawn0.refl _⟩
  obtain ⟨x, rfl⟩ := Int.eq_ofNat_of_zero_le h0
  obtain ⟨y, rfl⟩ := Int.eq_ofNat_of_zero_le h1
  obtain ⟨b, rfl⟩ := Int.eq_ofNat_of_zero_le h2
  have e1 : ((x : Int) - y - b) % 18446744073709551616 = (((x + 18446744073709551616 - y - b) % 18446744073709551616 : Nat) : Int) := by omega
  have e2 : (if (x : Int) < y + b then 1 else 0 : Int) = ((if x < y + b then 1 else 0 : Nat) : Int) := by split <;> split <;> omega
  rw [e1, e2, run_callFunc_extern Try.func61 (by kernel_rfl) (by kernel_rfl) (by kernel_rfl) (e := bits_Sub64.entry) (by kernel_rfl), bits_Sub64.run x y b (by omega)]
  rfl

/-! ### wide_Sub: function 49 -/
def wide_Sub.f (a0_0 : Int) (a0_1 : Int) (a1_0 : Int) (a1_1 : Int) : Option (Int × Int × Int) := (bits_Sub64.f a0_1 a1_1 0).bind fun bt302 => ((bits_Sub64.f a0_0 a1_0 bt302.2).bind fun bt304 => (if bt304.2 = 0 then (some (bt304.1, bt302.1, 0)) else (some (0, 0, 16))))
set_option maxHeartbeats 8000000 in
set_option maxRecDepth 100000 in
theorem wide_Sub.calls (a0_0 : Int) (a0_1 : Int) (a1_0 : Int) (a1_1 : Int) (r1 : Int) (r2 : Int) (r3 : Int) (w : World) (h : wide_Sub.f a0_0 a0_1 a1_0 a1_1 = some (r1, r2, r3)) :
  Calls Try.prog 49 #[.agg #[.int .u64 a0_0, .int .u64 a0_1], .agg #[.int .u64 a1_0, .int .u64 a1_1]] w fun e w' => e = .returned (.tuple #[.agg #[.int .u64 r1, .int .u64 r2], .int .i64 r3]) ∧ Below w.heap.size w w' := by
 have hu83 := Try.underlying83
 have HB := Aside0.mk (Below.refl w.heap.size w)
 have H : ((bits_Sub64.f a0_1 a1_1 0).bind fun bt302 => ((bits_Sub64.f a0_0 a1_0 bt302.2).bind fun bt304 => (if bt304.2 = 0 then (some (bt304.1, bt302.1, 0)) else (some (0, 0, 16))))) = some (r1, r2, r3) := h
 clear h
 have H0_ := bo_ H; clear H; obtain ⟨⟨t302, t303⟩, A3, H⟩ := H0_
 replace H : ((bits_Sub64.f a0_0 a1_0 t303).bind fun bt304 => (if bt304.2 = 0 then (some (bt304.1, t302, 0)) else (some (0, 0, 16)))) = some (r1, r2, r3) := H
 have H0_ := bo_ H; clear H; obtain ⟨⟨t304, t305⟩, A4, H⟩ := H0_
 replace H : (if t305 = 0 then (some (t304, t302, 0)) else (some (0, 0, 16))) = some (r1, r2, r3) := H
 by_cases c5 : t305 = 0
 ·rw [if_pos c5] at H
  have c5b0 : (t305 == 0) = true := beq_iff_eq.mpr c5
  have c5b1 : (t305 != 0) = false := bne_eq_false_iff_eq.mpr c5
  clear c5
  simp only [Option.some.injEq, Prod.mk.injEq] at H
  obtain ⟨rfl, rfl, rfl⟩ := H
  go_enter Try.func49, Try.ntmps49
  go_wp2_with (first | ((with_reducible refine gate_dst (N := 2) rfl ?_); refine bx_ #[.int .u64 a0_0, .int .u64 a0_1] 83 ?_; intro gb299 hg w6 BK299 hb; have GW299 := bz_ w hg; have GE299 := GW299; replace HB := bs_ w hb; clear hb hg) | ((with_reducible refine gate_dst (N := 3) rfl ?_); refine bx_ #[.int .u64 a1_0, .int .u64 a1_1] 83 ?_; intro gb300 hg w7 BK300 hb; have GW300 := bz_ w hg; have GE300 := GW300; have NB299_300 := bn_ BK299 hg; have NB300_299 := bm_ BK299 hg; replace BK299 := bb_ BK299 hb; replace HB := bs_ w hb; clear hb hg) | ((with_reducible refine gate_dst (N := 4) rfl ?_); refine bx_ #[.int .u64 0, .int .u64 0] 83 ?_; intro gb301 hg w8 BK301 hb; have GW301 := bz_ w hg; have GE301 := GW301; have NB299_301 := bn_ BK299 hg; have NB301_299 := bm_ BK299 hg; have NB300_301 := bn_ BK300 hg; have NB301_300 := bm_ BK300 hg; replace BK299 := bb_ BK299 hb; replace BK300 := bb_ BK300 hb; replace HB := bs_ w hb; clear hb hg; replace hn299_300 := NB299_300.out; replace hn300_299 := NB300_299.out; replace hn299_301 := NB299_301.out; replace hn301_299 := NB301_299.out; replace hc299 := ce2_ BK299; replace hn300_301 := NB300_301.out; replace hn301_300 := NB301_300.out; replace hc300 := ce2_ BK300) | ((with_reducible refine gate_callee (f := 61) rfl ?_); refine goesXL_ (some 15) rfl rfl #[.int .u64 a0_1, .int .u64 a1_1, .int .u64 0] rfl (by (try simp only [List.map_toArray, List.map_cons, List.map_nil]); first | done | rfl | (simp only [List.length_drop, List.length_take]; rfl)) ?_; (with_reducible refine (bits_Sub64.calls a0_1 a1_1 0 t302 t303 _ A3.out).mono ?_); rintro e w' ⟨rfl, ⟨nd, rfl⟩⟩; refine ⟨_, rfl, ?_⟩; (try ((first | generalize hq_ : World.drewN w8 _ = w8 | (rw [drewN_self w8]; generalize hq_ : World.drewN w8 _ = w8)); replace BK299 : Aside0 (w8.heap[gb299]? = some (.cells #[.int .u64 a0_0, .int .u64 a0_1] 83 (0, 0))) := ⟨by rw [← hq_]; exact (bq_ BK299)⟩; replace BK300 : Aside0 (w8.heap[gb300]? = some (.cells #[.int .u64 a1_0, .int .u64 a1_1] 83 (0, 0))) := ⟨by rw [← hq_]; exact (bq_ BK300)⟩; replace BK301 : Aside0 (w8.heap[gb301]? = some (.cells #[.int .u64 0, .int .u64 0] 83 (0, 0))) := ⟨by rw [← hq_]; exact (bq_ BK301)⟩; replace HB : Aside0 (Below w.heap.size w w8) := ⟨by rw [← hq_]; exact bh_⟩; clear hq_)); replace hc299 := ce2_ BK299; replace hc300 := ce2_ BK300) | ((with_reducible refine gate_callee (f := 61) rfl ?_); refine goesXL_ (some 24) rfl rfl #[.int .u64 a0_0, .int .u64 a1_0, .int .u64 t303] rfl (by (try simp only [List.map_toArray, List.map_cons, List.map_nil]); first | done | rfl | (simp only [List.length_drop, List.length_take]; rfl)) ?_; (with_reducible refine (bits_Sub64.calls a0_0 a1_0 t303 t304 t305 _ A4.out).mono ?_); rintro e w' ⟨rfl, ⟨nd, rfl⟩⟩; refine ⟨_, rfl, ?_⟩; (try ((first | generalize hq_ : World.drewN w8 _ = w8 | (rw [drewN_self w8]; generalize hq_ : World.drewN w8 _ = w8)); replace BK299 : Aside0 (w8.heap[gb299]? = some (.cells #[.int .u64 a0_0, .int .u64 a0_1] 83 (0, 0))) := ⟨by rw [← hq_]; exact (bq_ BK299)⟩; replace BK300 : Aside0 (w8.heap[gb300]? = some (.cells #[.int .u64 a1_0, .int .u64 a1_1] 83 (0, 0))) := ⟨by rw [← hq_]; exact (bq_ BK300)⟩; replace BK301 : Aside0 (w8.heap[gb301]? = some (.cells #[.int .u64 0, .int .u64 0] 83 (0, 0))) := ⟨by rw [← hq_]; exact (bq_ BK301)⟩; replace HB : Aside0 (Below w.heap.size w w8) := ⟨by rw [← hq_]; exact bh_⟩; clear hq_)); replace hc301 := ce2_ BK301))
  refine bodyPost_ret (results_ct rfl _ _ gb301 83 #[.int .u64 t304, .int .u64 t302] (0, 0) _ rfl (bp2_ (bq_ BK301)) Try.underlying83 rfl (by kernel_rfl)) rfl ?_
  exact fi_
 ·rw [if_neg c5] at H
  have c5b0 : (t305 == 0) = false := beq_eq_false_iff_ne.mpr c5
  have c5b1 : (t305 != 0) = true := bne_iff_ne.mpr c5
  simp only [Option.some.injEq, Prod.mk.injEq] at H
  obtain ⟨rfl, rfl, rfl⟩ := H
  go_enter Try.func49, Try.ntmps49
  go_wp2_with (first | ((with_reducible refine gate_dst (N := 2) rfl ?_); refine bx_ #[.int .u64 a0_0, .int .u64 a0_1] 83 ?_; intro gb299 hg w17 BK299 hb; have GW299 := bz_ w hg; have GE299 := GW299; replace HB := bs_ w hb; clear hb hg) | ((with_reducible refine gate_dst (N := 3) rfl ?_); refine bx_ #[.int .u64 a1_0, .int .u64 a1_1] 83 ?_; intro gb300 hg w18 BK300 hb; have GW300 := bz_ w hg; have GE300 := GW300; have NB299_300 := bn_ BK299 hg; have NB300_299 := bm_ BK299 hg; replace BK299 := bb_ BK299 hb; replace HB := bs_ w hb; clear hb hg) | ((with_reducible refine gate_dst (N := 4) rfl ?_); refine bx_ #[.int .u64 0, .int .u64 0] 83 ?_; intro gb301 hg w19 BK301 hb; have GW301 := bz_ w hg; have GE301 := GW301; have NB299_301 := bn_ BK299 hg; have NB301_299 := bm_ BK299 hg; have NB300_301 := bn_ BK300 hg; have NB301_300 := bm_ BK300 hg; replace BK299 := bb_ BK299 hb; replace BK300 := bb_ BK300 hb; replace HB := bs_ w hb; clear hb hg; replace hn299_300 := NB299_300.out; replace hn300_299 := NB300_299.out; replace hn299_301 := NB299_301.out; replace hn301_299 := NB301_299.out; replace hc299 := ce2_ BK299; replace hn300_301 := NB300_301.out; replace hn301_300 := NB301_300.out; replace hc300 := ce2_ BK300) | ((with_reducible refine gate_callee (f := 61) rfl ?_); refine goesXL_ (some 15) rfl rfl #[.int .u64 a0_1, .int .u64 a1_1, .int .u64 0] rfl (by (try simp only [List.map_toArray, List.map_cons, List.map_nil]); first | done | rfl | (simp only [List.length_drop, List.length_take]; rfl)) ?_; (with_reducible refine (bits_Sub64.calls a0_1 a1_1 0 t302 t303 _ A3.out).mono ?_); rintro e w' ⟨rfl, ⟨nd, rfl⟩⟩; refine ⟨_, rfl, ?_⟩; (try ((first | generalize hq_ : World.drewN w19 _ = w19 | (rw [drewN_self w19]; generalize hq_ : World.drewN w19 _ = w19)); replace BK299 : Aside0 (w19.heap[gb299]? = some (.cells #[.int .u64 a0_0, .int .u64 a0_1] 83 (0, 0))) := ⟨by rw [← hq_]; exact (bq_ BK299)⟩; replace BK300 : Aside0 (w19.heap[gb300]? = some (.cells #[.int .u64 a1_0, .int .u64 a1_1] 83 (0, 0))) := ⟨by rw [← hq_]; exact (bq_ BK300)⟩; replace BK301 : Aside0 (w19.heap[gb301]? = some (.cells #[.int .u64 0, .int .u64 0] 83 (0, 0))) := ⟨by rw [← hq_]; exact (bq_ BK301)⟩; replace HB : Aside0 (Below w.heap.size w w19) := ⟨by rw [← hq_]; exact bh_⟩; clear hq_)); replace hc299 := ce2_ BK299; replace hc300 := ce2_ BK300) | ((with_reducible refine gate_callee (f := 61) rfl ?_); refine goesXL_ (some 24) rfl rfl #[.int .u64 a0_0, .int .u64 a1_0, .int .u64 t303] rfl (by (try simp only [List.map_toArray, List.map_cons, List.map_nil]); first | done | rfl | (simp only [List.length_drop, List.length_take]; rfl)) ?_; (with_reducible refine (bits_Sub64.calls a0_0 a1_0 t303 t304 t305 _ A4.out).mono ?_); rintro e w' ⟨rfl, ⟨nd, rfl⟩⟩; refine ⟨_, rfl, ?_⟩; (try ((first | generalize hq_ : World.drewN w19 _ = w19 | (rw [drewN_self w19]; generalize hq_ : World.drewN w19 _ = w19)); replace BK299 : Aside0 (w19.heap[gb299]? = some (.cells #[.int .u64 a0_0, .int .u64 a0_1] 83 (0, 0))) := ⟨by rw [← hq_]; exact (bq_ BK299)⟩; replace BK300 : Aside0 (w19.heap[gb300]? = some (.cells #[.int .u64 a1_0, .int .u64 a1_1] 83 (0, 0))) := ⟨by rw [← hq_]; exact (bq_ BK300)⟩; replace BK301 : Aside0 (w19.heap[gb301]? = some (.cells #[.int .u64 0, .int .u64 0] 83 (0, 0))) := ⟨by rw [← hq_]; exact (bq_ BK301)⟩; replace HB : Aside0 (Below w.heap.size w w19) := ⟨by rw [← hq_]; exact bh_⟩; clear hq_)); replace hc301 := ce2_ BK301))
  refine bodyPost_ret (results_ct rfl _ _ gb301 83 #[.int .u64 0, .int .u64 0] (0, 0) _ rfl (bp2_ (bq_ BK301)) Try.underlying83 rfl (by kernel_rfl)) rfl ?_
  exact fi_

end Go.Proofs.Ytaegpnbgppjicaa.X
