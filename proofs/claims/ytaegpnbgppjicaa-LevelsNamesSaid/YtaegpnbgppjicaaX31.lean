-- written by xprint.py, a program of this session over the kit's print
import Derived.Test.YtaegpnbgppjicaaX0
import Derived.Test.YtaegpnbgppjicaaX5
import Derived.Test.YtaegpnbgppjicaaX11
import Derived.Test.YtaegpnbgppjicaaX12
import Derived.Test.YtaegpnbgppjicaaX30
namespace Go.Proofs.Ytaegpnbgppjicaa.X
open Go.RowKit Go.Proofs.YtaegpnbgppjicaaW.PrintWords Go.Proofs.YtaegpnbgppjicaaW.PrintLast Go.Proofs.YtaegpnbgppjicaaW.PrintMore
attribute [local go_sem] max2_int min2_int max_two min_two max_three min_three max_four min_four   -- for this text's walks alone
set_option linter.unusedVariables false
set_option linter.unusedSimpArgs false

/-! ### spigotlaw04_alive: function 17 -/
def spigotlaw04_alive.f (k : Nat)  : Option (Bool) := (spigotlaw04_given.f).bind fun t353 => ((levels_Take.f k t353 0 4).bind fun bt356 => ((levels_Take.f k bt356.1 3 4).bind fun bt361 => ((levels_Wait.f k bt361.1 2).bind fun bt366 => (if bt356.2.2 = 0 then (if bt356.2.1 = true then (if (bt356.1.length : Int) = 2 then (if 0 < (bt356.1.length : Int) then (if ((rd_T37 bt356.1 0).f1) = 1 then (if 1 < (bt356.1.length : Int) then (if ((rd_T37 bt356.1 1).f1) = 4 then (if bt361.2.2 = 0 then (if bt361.2.1 = true then (if (bt361.1.length : Int) = 2 then (if 0 < (bt361.1.length : Int) then (if ((rd_T37 bt361.1 0).f1) = 0 then (if 1 < (bt361.1.length : Int) then (if ((rd_T37 bt361.1 1).f1) = 0 then (if ((rd_T37 bt361.1 1).f2) = 3 then (if bt366.2 = 0 then (some (bt366.1 == 5)) else (none)) else (none)) else (none)) else (none)) else (none)) else (none)) else (none)) else (none)) else (none)) else (none)) else (none)) else (none)) else (none)) else (none)) else (none)) else (none)))))
theorem spigotlaw04_alive.mono : ∀ k, LeO (spigotlaw04_alive.f k ) (spigotlaw04_alive.f (k + 1) ) := by
  intro  k
  unfold spigotlaw04_alive.f
  repeat' first
      | (with_reducible exact levels_Take.mono _ _ _ _)
      | (with_reducible exact levels_Wait.mono _ _ _)
      | (with_reducible exact LeO.refl _)
      | (with_reducible exact LeO.none _)
      | (with_reducible refine LeO.ite ?_ ?_)
      | (with_reducible refine LeO.bind ?_ (fun _ => ?_))
      | exact levels_Take.mono _ _ _ _
      | exact levels_Wait.mono _ _ _
      | exact LeO.none _
      | refine LeO.ite ?_ ?_
      | refine LeO.bind ?_ (fun _ => ?_)
set_option maxHeartbeats 8000000 in
set_option maxRecDepth 100000 in
theorem spigotlaw04_alive.calls (k : Nat)  (r : Bool) (w : World) (h : spigotlaw04_alive.f k  = some r) :
  Calls Try.prog 17 #[] w fun e w' => e = .returned (.bool r) ∧ Below w.heap.size w w' := by
 have HB := Aside0.mk (Below.refl w.heap.size w)
 have H : ((spigotlaw04_given.f).bind fun t353 => ((levels_Take.f k t353 0 4).bind fun bt356 => ((levels_Take.f k bt356.1 3 4).bind fun bt361 => ((levels_Wait.f k bt361.1 2).bind fun bt366 => (if bt356.2.2 = 0 then (if bt356.2.1 = true then (if (bt356.1.length : Int) = 2 then (if 0 < (bt356.1.length : Int) then (if ((rd_T37 bt356.1 0).f1) = 1 then (if 1 < (bt356.1.length : Int) then (if ((rd_T37 bt356.1 1).f1) = 4 then (if bt361.2.2 = 0 then (if bt361.2.1 = true then (if (bt361.1.length : Int) = 2 then (if 0 < (bt361.1.length : Int) then (if ((rd_T37 bt361.1 0).f1) = 0 then (if 1 < (bt361.1.length : Int) then (if ((rd_T37 bt361.1 1).f1) = 0 then (if ((rd_T37 bt361.1 1).f2) = 3 then (if bt366.2 = 0 then (some (bt366.1 == 5)) else (none)) else (none)) else (none)) else (none)) else (none)) else (none)) else (none)) else (none)) else (none)) else (none)) else (none)) else (none)) else (none)) else (none)) else (none)) else (none)))))) = some r := h
 clear h
 have H0_ := bo_ H; clear H; obtain ⟨t353, A1, H⟩ := H0_
 try dsimp only at H
 have H0_ := bo_ H; clear H; obtain ⟨⟨t356, t357, t358⟩, A2, H⟩ := H0_
 try dsimp only at H
 have H0_ := bo_ H; clear H; obtain ⟨⟨t361, t362, t363⟩, A3, H⟩ := H0_
 try dsimp only at H
 have H0_ := bo_ H; clear H; obtain ⟨⟨t366, t367⟩, A4, H⟩ := H0_
 try dsimp only at H
 obtain ⟨c5b0, c5b1, H⟩ := ct_ H
 by_cases c6 : t357 = true
 ·subst c6
  rw [if_pos rfl] at H
  try dsimp only at H
  obtain ⟨c7b0, c7b1, H⟩ := ct_ H
  by_cases c8 : 0 < (t356.length : Int)
  rotate_left
  ·rw [if_neg c8] at H; exact absurd H (by simp)
  rw [if_pos c8] at H
  have c8b0 : decide (0 < (t356.length : Int)) = true := decide_eq_true c8
  have c8b1 : decide (0 < t356.length) = true := decide_eq_true (by omega)
  clear c8
  obtain ⟨c9b0, c9b1, H⟩ := ct_ H
  by_cases c10 : 1 < (t356.length : Int)
  rotate_left
  ·rw [if_neg c10] at H; exact absurd H (by simp)
  rw [if_pos c10] at H
  have c10b0 : decide (1 < (t356.length : Int)) = true := decide_eq_true c10
  have c10b1 : decide (1 < t356.length) = true := decide_eq_true (by omega)
  clear c10
  obtain ⟨c11b0, c11b1, H⟩ := ct_ H
  obtain ⟨c12b0, c12b1, H⟩ := ct_ H
  by_cases c13 : t362 = true
  ·subst c13
   rw [if_pos rfl] at H
   try dsimp only at H
   obtain ⟨c14b0, c14b1, H⟩ := ct_ H
   by_cases c15 : 0 < (t361.length : Int)
   rotate_left
   ·rw [if_neg c15] at H; exact absurd H (by simp)
   rw [if_pos c15] at H
   have c15b0 : decide (0 < (t361.length : Int)) = true := decide_eq_true c15
   have c15b1 : decide (0 < t361.length) = true := decide_eq_true (by omega)
   clear c15
   obtain ⟨c16b0, c16b1, H⟩ := ct_ H
   by_cases c17 : 1 < (t361.length : Int)
   rotate_left
   ·rw [if_neg c17] at H; exact absurd H (by simp)
   rw [if_pos c17] at H
   have c17b0 : decide (1 < (t361.length : Int)) = true := decide_eq_true c17
   have c17b1 : decide (1 < t361.length) = true := decide_eq_true (by omega)
   clear c17
   obtain ⟨c18b0, c18b1, H⟩ := ct_ H
   obtain ⟨c19b0, c19b1, H⟩ := ct_ H
   obtain ⟨c20b0, c20b1, H⟩ := ct_ H
   obtain rfl := Option.some.inj H
   go_enter Try.func17, Try.ntmps17
   go_wp2_with (first | ((with_reducible refine gate_callee (f := 31) rfl ?_); (try refine ug_ (by rfl) ?_); refine goesA_ (some 10) Try.func31 #[] ?_; (with_reducible refine (spigotlaw04_given.calls  t353 _ A1.out).mono ?_); rintro e w21 ⟨v354, rfl, ho0, hb⟩; refine ⟨_, rfl, ?_⟩; have HO355 := Aside0.mk (Kd.R_lower ho0 (below_size (hq_ HB))); replace HB := bs_ w hb; clear hb; (try clear ho0); obtain ⟨Ao22, co22, eo22⟩ := Kd.R_slice HO355.out; subst eo22) | ((with_reducible refine gate_callee (f := 23) rfl ?_); (try refine ug_ (by rfl) ?_); refine goesA_ (some 11) Try.func23 #[.slice Ao22 t353.length co22, .int .u64 0, .int .i64 4] ?_; (with_reducible refine (levels_Take.calls k _ _ t353 0 4 t356 true t358 _ ?side1 ?side2 A2.out).mono ?_); (case side1 => exact cr_ HO355); (case side2 => exact (Kd.R_reads' HO355.out).2.1); rintro e w23 ⟨v359, rfl, ho0, hb⟩; refine ⟨_, rfl, ?_⟩; have HO360 := Aside0.mk (Kd.R_lower (Kd.R_new' ho0 (Kd.R_lt (rs_ HO355))) (below_size (hq_ HB))); replace HO355 := Aside0.mk (Kd.R_elder' (rs_ HO355) (Kd.R_base ho0) hb); replace HB := bs_ w hb; (try clear hb); (try clear hb2); (try clear hk); (try clear hi); (try clear ho0); obtain ⟨Ao24, co24, eo24⟩ := Kd.R_slice HO360.out; subst eo24) | ((with_reducible refine gate_callee (f := 23) rfl ?_); (try refine ug_ (by rfl) ?_); refine goesA_ (some 17) Try.func23 #[.slice Ao24 t356.length co24, .int .u64 3, .int .i64 4] ?_; (with_reducible refine (levels_Take.calls k _ _ t356 3 4 t361 true t363 _ ?side1 ?side2 A3.out).mono ?_); (case side1 => exact cr_ HO360); (case side2 => exact (Kd.R_reads' HO360.out).2.1); rintro e w25 ⟨v364, rfl, ho0, hb⟩; refine ⟨_, rfl, ?_⟩; have HO365 := Aside0.mk (Kd.R_lower (Kd.R_new' (Kd.R_new' ho0 (Kd.R_lt (rs_ HO355))) (Kd.R_lt (rs_ HO360))) (below_size (hq_ HB))); replace HO355 := Aside0.mk (Kd.R_elder' (rs_ HO355) (Kd.R_base ho0) hb); replace HO360 := Aside0.mk (Kd.R_elder' (rs_ HO360) (Kd.R_base ho0) hb); replace HB := bs_ w hb; (try clear hb); (try clear hb2); (try clear hk); (try clear hi); (try clear ho0); obtain ⟨Ao26, co26, eo26⟩ := Kd.R_slice HO365.out; subst eo26) | ((with_reducible refine gate_callee (f := 18) rfl ?_); (try refine ug_ (by rfl) ?_); refine goesA_ (some 23) Try.func18 #[.slice Ao26 t361.length co26, .int .i64 2] ?_; (with_reducible refine (levels_Wait.calls k _ _ t361 2 t366 t367 _ ?side1 ?side2 A4.out).mono ?_); (case side1 => exact cr_ HO365); (case side2 => exact (Kd.R_reads' HO365.out).2.1); rintro e w27 ⟨rfl, hb⟩; refine ⟨_, rfl, ?_⟩; replace HO355 := rb_ HO355 hb; replace HO360 := rb_ HO360 hb; replace HO365 := rb_ HO365 hb; replace HB := bs_ w hb; clear hb; have p368 : 0 ≤ (0 : Int) := (by omega); have q368 : 0 < (t356.length : Int) := of_decide_eq_true (by first | (with_reducible assumption) | assumption); obtain ⟨ad368, e368, hx368_0, hx368_1, hx368_2, hx368_3, hx368_4, hx368_5⟩ := at_T37 (Kd.R_reads' HO360.out).2.2 0 p368 q368; cases e368; have qi368 : (0 < t356.length) = True := eq_true (by omega); (try rw [show ((0 : Int)).toNat = 0 from rfl] at hx368_0); (try rw [show 0 * 6 = 0 from rfl] at hx368_0); (try rw [Addr.add_zero'] at hx368_0); (try rw [show ((0 : Int)).toNat = 0 from rfl] at hx368_1); (try rw [show 0 * 6 = 0 from rfl] at hx368_1); (try rw [Addr.add_zero'] at hx368_1); (try rw [show ((0 : Int)).toNat = 0 from rfl] at hx368_2); (try rw [show 0 * 6 = 0 from rfl] at hx368_2); (try rw [Addr.add_zero'] at hx368_2); (try rw [show ((0 : Int)).toNat = 0 from rfl] at hx368_3); (try rw [show 0 * 6 = 0 from rfl] at hx368_3); (try rw [Addr.add_zero'] at hx368_3); (try rw [show ((0 : Int)).toNat = 0 from rfl] at hx368_4); (try rw [show 0 * 6 = 0 from rfl] at hx368_4); (try rw [Addr.add_zero'] at hx368_4); (try rw [show ((0 : Int)).toNat = 0 from rfl] at hx368_5); (try rw [show 0 * 6 = 0 from rfl] at hx368_5); (try rw [Addr.add_zero'] at hx368_5); replace p368 := eq_true p368; replace q368 := eq_true q368; have p369 : 0 ≤ (1 : Int) := (by omega); have q369 : 1 < (t356.length : Int) := of_decide_eq_true (by first | (with_reducible assumption) | assumption); obtain ⟨ad369, e369, hx369_0, hx369_1, hx369_2, hx369_3, hx369_4, hx369_5⟩ := at_T37 (Kd.R_reads' HO360.out).2.2 1 p369 q369; obtain rfl : ad368 = ad369 := (by injection e369); (try simp only [show (1 : Int).toNat = 1 from rfl, Nat.reduceMul, Nat.reduceEqDiff, Go.Addr.add, ↓reduceIte] at hx369_0); (try simp only [show (1 : Int).toNat = 1 from rfl, Nat.reduceMul, Nat.reduceEqDiff, Go.Addr.add, ↓reduceIte] at hx369_1); (try simp only [show (1 : Int).toNat = 1 from rfl, Nat.reduceMul, Nat.reduceEqDiff, Go.Addr.add, ↓reduceIte] at hx369_2); (try simp only [show (1 : Int).toNat = 1 from rfl, Nat.reduceMul, Nat.reduceEqDiff, Go.Addr.add, ↓reduceIte] at hx369_3); (try simp only [show (1 : Int).toNat = 1 from rfl, Nat.reduceMul, Nat.reduceEqDiff, Go.Addr.add, ↓reduceIte] at hx369_4); (try simp only [show (1 : Int).toNat = 1 from rfl, Nat.reduceMul, Nat.reduceEqDiff, Go.Addr.add, ↓reduceIte] at hx369_5); have qi369 : (1 < t356.length) = True := eq_true (by omega); (try rw [show ((1 : Int)).toNat = 1 from rfl] at hx369_0); (try rw [show 1 * 6 = 6 from rfl] at hx369_0); (try rw [show ((1 : Int)).toNat = 1 from rfl] at hx369_1); (try rw [show 1 * 6 = 6 from rfl] at hx369_1); (try rw [show ((1 : Int)).toNat = 1 from rfl] at hx369_2); (try rw [show 1 * 6 = 6 from rfl] at hx369_2); (try rw [show ((1 : Int)).toNat = 1 from rfl] at hx369_3); (try rw [show 1 * 6 = 6 from rfl] at hx369_3); (try rw [show ((1 : Int)).toNat = 1 from rfl] at hx369_4); (try rw [show 1 * 6 = 6 from rfl] at hx369_4); (try rw [show ((1 : Int)).toNat = 1 from rfl] at hx369_5); (try rw [show 1 * 6 = 6 from rfl] at hx369_5); replace p369 := eq_true p369; replace q369 := eq_true q369; have p370 : 0 ≤ (0 : Int) := (by omega); have q370 : 0 < (t361.length : Int) := of_decide_eq_true (by first | (with_reducible assumption) | assumption); obtain ⟨ad370, e370, hx370_0, hx370_1, hx370_2, hx370_3, hx370_4, hx370_5⟩ := at_T37 (Kd.R_reads' HO365.out).2.2 0 p370 q370; cases e370; have qi370 : (0 < t361.length) = True := eq_true (by omega); (try rw [show ((0 : Int)).toNat = 0 from rfl] at hx370_0); (try rw [show 0 * 6 = 0 from rfl] at hx370_0); (try rw [Addr.add_zero'] at hx370_0); (try rw [show ((0 : Int)).toNat = 0 from rfl] at hx370_1); (try rw [show 0 * 6 = 0 from rfl] at hx370_1); (try rw [Addr.add_zero'] at hx370_1); (try rw [show ((0 : Int)).toNat = 0 from rfl] at hx370_2); (try rw [show 0 * 6 = 0 from rfl] at hx370_2); (try rw [Addr.add_zero'] at hx370_2); (try rw [show ((0 : Int)).toNat = 0 from rfl] at hx370_3); (try rw [show 0 * 6 = 0 from rfl] at hx370_3); (try rw [Addr.add_zero'] at hx370_3); (try rw [show ((0 : Int)).toNat = 0 from rfl] at hx370_4); (try rw [show 0 * 6 = 0 from rfl] at hx370_4); (try rw [Addr.add_zero'] at hx370_4); (try rw [show ((0 : Int)).toNat = 0 from rfl] at hx370_5); (try rw [show 0 * 6 = 0 from rfl] at hx370_5); (try rw [Addr.add_zero'] at hx370_5); replace p370 := eq_true p370; replace q370 := eq_true q370; have p371 : 0 ≤ (1 : Int) := (by omega); have q371 : 1 < (t361.length : Int) := of_decide_eq_true (by first | (with_reducible assumption) | assumption); obtain ⟨ad371, e371, hx371_0, hx371_1, hx371_2, hx371_3, hx371_4, hx371_5⟩ := at_T37 (Kd.R_reads' HO365.out).2.2 1 p371 q371; obtain rfl : ad370 = ad371 := (by injection e371); (try simp only [show (1 : Int).toNat = 1 from rfl, Nat.reduceMul, Nat.reduceEqDiff, Go.Addr.add, ↓reduceIte] at hx371_0); (try simp only [show (1 : Int).toNat = 1 from rfl, Nat.reduceMul, Nat.reduceEqDiff, Go.Addr.add, ↓reduceIte] at hx371_1); (try simp only [show (1 : Int).toNat = 1 from rfl, Nat.reduceMul, Nat.reduceEqDiff, Go.Addr.add, ↓reduceIte] at hx371_2); (try simp only [show (1 : Int).toNat = 1 from rfl, Nat.reduceMul, Nat.reduceEqDiff, Go.Addr.add, ↓reduceIte] at hx371_3); (try simp only [show (1 : Int).toNat = 1 from rfl, Nat.reduceMul, Nat.reduceEqDiff, Go.Addr.add, ↓reduceIte] at hx371_4); (try simp only [show (1 : Int).toNat = 1 from rfl, Nat.reduceMul, Nat.reduceEqDiff, Go.Addr.add, ↓reduceIte] at hx371_5); have qi371 : (1 < t361.length) = True := eq_true (by omega); (try rw [show ((1 : Int)).toNat = 1 from rfl] at hx371_0); (try rw [show 1 * 6 = 6 from rfl] at hx371_0); (try rw [show ((1 : Int)).toNat = 1 from rfl] at hx371_1); (try rw [show 1 * 6 = 6 from rfl] at hx371_1); (try rw [show ((1 : Int)).toNat = 1 from rfl] at hx371_2); (try rw [show 1 * 6 = 6 from rfl] at hx371_2); (try rw [show ((1 : Int)).toNat = 1 from rfl] at hx371_3); (try rw [show 1 * 6 = 6 from rfl] at hx371_3); (try rw [show ((1 : Int)).toNat = 1 from rfl] at hx371_4); (try rw [show 1 * 6 = 6 from rfl] at hx371_4); (try rw [show ((1 : Int)).toNat = 1 from rfl] at hx371_5); (try rw [show 1 * 6 = 6 from rfl] at hx371_5); replace p371 := eq_true p371; replace q371 := eq_true q371; have p372 : 0 ≤ (1 : Int) := (by omega); have q372 : 1 < (t361.length : Int) := of_decide_eq_true (by first | (with_reducible assumption) | assumption); obtain ⟨ad372, e372, hx372_0, hx372_1, hx372_2, hx372_3, hx372_4, hx372_5⟩ := at_T37 (Kd.R_reads' HO365.out).2.2 1 p372 q372; obtain rfl : ad370 = ad372 := (by injection e372); (try simp only [show (1 : Int).toNat = 1 from rfl, Nat.reduceMul, Nat.reduceEqDiff, Go.Addr.add, ↓reduceIte] at hx372_0); (try simp only [show (1 : Int).toNat = 1 from rfl, Nat.reduceMul, Nat.reduceEqDiff, Go.Addr.add, ↓reduceIte] at hx372_1); (try simp only [show (1 : Int).toNat = 1 from rfl, Nat.reduceMul, Nat.reduceEqDiff, Go.Addr.add, ↓reduceIte] at hx372_2); (try simp only [show (1 : Int).toNat = 1 from rfl, Nat.reduceMul, Nat.reduceEqDiff, Go.Addr.add, ↓reduceIte] at hx372_3); (try simp only [show (1 : Int).toNat = 1 from rfl, Nat.reduceMul, Nat.reduceEqDiff, Go.Addr.add, ↓reduceIte] at hx372_4); (try simp only [show (1 : Int).toNat = 1 from rfl, Nat.reduceMul, Nat.reduceEqDiff, Go.Addr.add, ↓reduceIte] at hx372_5); have qi372 : (1 < t361.length) = True := eq_true (by omega); (try rw [show ((1 : Int)).toNat = 1 from rfl] at hx372_0); (try rw [show 1 * 6 = 6 from rfl] at hx372_0); (try rw [show ((1 : Int)).toNat = 1 from rfl] at hx372_1); (try rw [show 1 * 6 = 6 from rfl] at hx372_1); (try rw [show ((1 : Int)).toNat = 1 from rfl] at hx372_2); (try rw [show 1 * 6 = 6 from rfl] at hx372_2); (try rw [show ((1 : Int)).toNat = 1 from rfl] at hx372_3); (try rw [show 1 * 6 = 6 from rfl] at hx372_3); (try rw [show ((1 : Int)).toNat = 1 from rfl] at hx372_4); (try rw [show 1 * 6 = 6 from rfl] at hx372_4); (try rw [show ((1 : Int)).toNat = 1 from rfl] at hx372_5); (try rw [show 1 * 6 = 6 from rfl] at hx372_5); replace p372 := eq_true p372; replace q372 := eq_true q372))
   go_ret
   exact fi_
  ·replace c13 := Bool.eq_false_iff.mpr c13
   subst c13
   replace H : (none) = some r := by rw [if_neg (show ¬ (false = true) by decide)] at H; exact H
   exact absurd H (by simp)
 ·replace c6 := Bool.eq_false_iff.mpr c6
  subst c6
  replace H : (none) = some r := by rw [if_neg (show ¬ (false = true) by decide)] at H; exact H
  exact absurd H (by simp)

/-! ### levels_Refill: function 19 -/
def levels_Refill.f (k : Nat) (l0 : List (S37)) (a1 : Int) : Option ((List (S37)) × Int) := (levels_check.f k l0 ([] : List Int)).bind fun t373 => (if t373 = 0 then ((levels_fill.f k l0 a1).bind fun t374 => (some (t374, 0))) else (some (([] : List (S37)), t373)))
theorem levels_Refill.mono : ∀ a0 a1 k, LeO (levels_Refill.f k a0 a1) (levels_Refill.f (k + 1) a0 a1) := by
  intro a0 a1 k
  unfold levels_Refill.f
  repeat' first
      | (with_reducible exact levels_check.mono _ _ _)
      | (with_reducible exact levels_fill.mono _ _ _)
      | (with_reducible exact LeO.refl _)
      | (with_reducible exact LeO.none _)
      | (with_reducible refine LeO.ite ?_ ?_)
      | (with_reducible refine LeO.bind ?_ (fun _ => ?_))
      | exact levels_check.mono _ _ _
      | exact levels_fill.mono _ _ _
      | exact LeO.none _
      | refine LeO.ite ?_ ?_
      | refine LeO.bind ?_ (fun _ => ?_)
set_option maxHeartbeats 8000000 in
set_option maxRecDepth 100000 in
theorem levels_Refill.calls (k : Nat) (A0 : Option Addr) (c0 : Nat) (l0 : List (S37)) (a1 : Int) (r1 : List (S37)) (r2 : Int) (w : World) (hr0 : Kd.C k37 w A0 l0.length l0) (hc0 : l0.length ≤ c0) (h : levels_Refill.f k l0 a1 = some (r1, r2)) :
  Calls Try.prog 19 #[.slice A0 l0.length c0, .int .u64 a1] w fun e w' => ∃ v0_ : Value, e = .returned (.tuple #[v0_, .int .i64 r2]) ∧ Kd.R k37 37 w' w.heap.size (fun _ => True) v0_ r1 ∧ Below w.heap.size w w' := by
 have HR0 := Aside0.mk hr0
 have HC0 := Aside0.mk hc0
 clear hr0 hc0
 have HB := Aside0.mk (Below.refl w.heap.size w)
 have H : ((levels_check.f k l0 ([] : List Int)).bind fun t373 => (if t373 = 0 then ((levels_fill.f k l0 a1).bind fun t374 => (some (t374, 0))) else (some (([] : List (S37)), t373)))) = some (r1, r2) := h
 clear h
 have H0_ := bo_ H; clear H; obtain ⟨t373, A3, H⟩ := H0_
 replace H : (if t373 = 0 then ((levels_fill.f k l0 a1).bind fun t374 => (some (t374, 0))) else (some (([] : List (S37)), t373))) = some (r1, r2) := H
 by_cases c4 : t373 = 0
 ·rw [if_pos c4] at H
  have c4b0 : (t373 == 0) = true := beq_iff_eq.mpr c4
  have c4b1 : (t373 != 0) = false := bne_eq_false_iff_eq.mpr c4
  clear c4
  have H0_ := bo_ H; clear H; obtain ⟨t374, A5, H⟩ := H0_
  replace H : (some (t374, 0)) = some (r1, r2) := H
  simp only [Option.some.injEq, Prod.mk.injEq] at H
  obtain ⟨rfl, rfl⟩ := H
  go_enter Try.func19, Try.ntmps19
  go_wp2_with (first | ((with_reducible refine gate_callee (f := 33) rfl ?_); refine goesA_ (some 8) Try.func33 #[.slice A0 l0.length c0, .slice none 0 0] ?_; (refine (levels_check.calls k _ _ l0 _ _ ([] : List Int) t373 _ ?side1 ?side2 ?side3 ?side4 A3.out).mono ?_); (case side1 => exact ch_ HR0); (case side2 => exact HC0.out); (case side3 => exact Kd.C_nil _ _); (case side4 => exact Nat.le_refl _); rintro e w6 ⟨rfl, hb⟩; refine ⟨_, rfl, ?_⟩; replace HB := bs_ w hb; clear hb) | ((with_reducible refine gate_callee (f := 38) rfl ?_); refine goesA_ (some 14) Try.func38 #[.slice A0 l0.length c0, .int .u64 a1] ?_; (with_reducible refine (levels_fill.calls k _ _ l0 a1 t374 _ ?side1 ?side2 A5.out).mono ?_); (case side1 => exact cs_ HR0 HB); (case side2 => exact HC0.out); rintro e w7 ⟨v375, rfl, ho0, hb⟩; refine ⟨_, rfl, ?_⟩; have HO376 := Aside0.mk (Kd.R_lower ho0 (below_size (hq_ HB))); replace HB := bs_ w hb; clear hb; (try clear ho0)))
  go_ret2
  exact ⟨_, by first | rfl | (simp [errW_none, errW_some] <;> rfl) | (simp [*, errW_none, errW_some] <;> rfl), by (with_reducible repeat (first | apply Kd.R_alloc | apply Kd.R_drewN | apply Kd.R_drew)); exact HO376.out, by repeat (first | (with_reducible first | exact HB.out | apply below_alloc | apply pw_below_drewN | apply below_drew1) | exact HB.out)⟩
 ·rw [if_neg c4] at H
  have c4b0 : (t373 == 0) = false := beq_eq_false_iff_ne.mpr c4
  have c4b1 : (t373 != 0) = true := bne_iff_ne.mpr c4
  simp only [Option.some.injEq, Prod.mk.injEq] at H
  obtain ⟨rfl, rfl⟩ := H
  go_enter Try.func19, Try.ntmps19
  go_wp2_with (first | ((with_reducible refine gate_callee (f := 33) rfl ?_); refine goesA_ (some 8) Try.func33 #[.slice A0 l0.length c0, .slice none 0 0] ?_; (refine (levels_check.calls k _ _ l0 _ _ ([] : List Int) t373 _ ?side1 ?side2 ?side3 ?side4 A3.out).mono ?_); (case side1 => exact ch_ HR0); (case side2 => exact HC0.out); (case side3 => exact Kd.C_nil _ _); (case side4 => exact Nat.le_refl _); rintro e w8 ⟨rfl, hb⟩; refine ⟨_, rfl, ?_⟩; replace HB := bs_ w hb; clear hb))
  go_ret2
  exact ⟨_, by first | rfl | (simp [errW_none, errW_some] <;> rfl) | (simp [*, errW_none, errW_some] <;> rfl), by first | exact Kd.R_nil _ _ _ _ _ | exact Kd.N_nil _ _ _ _ _ | exact Kd.V_nil _ _ _ _ _ | exact Kd.Q_nil _ _ _ _ _ | exact Kd.S_nil _ _ _ _ _, by repeat (first | (with_reducible first | exact HB.out | apply below_alloc | apply pw_below_drewN | apply below_drew1) | exact HB.out)⟩

/-! ### levels_Holds: function 20 -/
def levels_Holds.f (k : Nat) (l0 : List (S37)) (a1 : Int) : Option (Bool × Int) := (levels_check.f k l0 (([a1] : List Int))).bind fun t380 => (if t380 = 0 then ((levels_holds.f l0 a1).bind fun t381 => (some (t381, 0))) else (some (false, t380)))
theorem levels_Holds.mono : ∀ a0 a1 k, LeO (levels_Holds.f k a0 a1) (levels_Holds.f (k + 1) a0 a1) := by
  intro a0 a1 k
  unfold levels_Holds.f
  repeat' first
      | (with_reducible exact levels_check.mono _ _ _)
      | (with_reducible exact LeO.refl _)
      | (with_reducible exact LeO.none _)
      | (with_reducible refine LeO.ite ?_ ?_)
      | (with_reducible refine LeO.bind ?_ (fun _ => ?_))
      | exact levels_check.mono _ _ _
      | exact LeO.none _
      | refine LeO.ite ?_ ?_
      | refine LeO.bind ?_ (fun _ => ?_)
set_option maxHeartbeats 8000000 in
set_option maxRecDepth 100000 in
theorem levels_Holds.calls (k : Nat) (A0 : Option Addr) (c0 : Nat) (l0 : List (S37)) (a1 : Int) (r1 : Bool) (r2 : Int) (w : World) (hr0 : Kd.C k37 w A0 l0.length l0) (hc0 : l0.length ≤ c0) (h : levels_Holds.f k l0 a1 = some (r1, r2)) :
  Calls Try.prog 20 #[.slice A0 l0.length c0, .int .i64 a1] w fun e w' => e = .returned (.tuple #[.bool r1, .int .i64 r2]) ∧ Below w.heap.size w w' := by
 have HR0 := Aside0.mk hr0
 have HC0 := Aside0.mk hc0
 clear hr0 hc0
 have HB := Aside0.mk (Below.refl w.heap.size w)
 have H : ((levels_check.f k l0 (([a1] : List Int))).bind fun t380 => (if t380 = 0 then ((levels_holds.f l0 a1).bind fun t381 => (some (t381, 0))) else (some (false, t380)))) = some (r1, r2) := h
 clear h
 obtain ⟨y377, hy377⟩ : ∃ y_ : List Int, y_ = (([a1] : List Int)) := ⟨_, rfl⟩
 replace H : ((levels_check.f k l0 y377).bind fun t380 => (if t380 = 0 then ((levels_holds.f l0 a1).bind fun t381 => (some (t381, 0))) else (some (false, t380)))) = some (r1, r2) := by first | (rw [hy377]; with_reducible exact H) | (have H2_ := (Option.bind_some _ _).symm.trans H; rw [hy377]; with_reducible exact H2_) | (have H2_ := (Option.bind_some _ _).symm.trans H; with_reducible exact H2_) | with_reducible exact H | (rw [hy377]; exact H) | exact H
 have Ny377 := Aside0.mk hy377
 clear hy377
 have H0_ := bo_ H; clear H; obtain ⟨t380, A3, H⟩ := H0_
 replace H : (if t380 = 0 then ((levels_holds.f l0 a1).bind fun t381 => (some (t381, 0))) else (some (false, t380))) = some (r1, r2) := H
 by_cases c4 : t380 = 0
 ·rw [if_pos c4] at H
  have c4b0 : (t380 == 0) = true := beq_iff_eq.mpr c4
  have c4b1 : (t380 != 0) = false := bne_eq_false_iff_eq.mpr c4
  clear c4
  have H0_ := bo_ H; clear H; obtain ⟨t381, A5, H⟩ := H0_
  replace H : (some (t381, 0)) = some (r1, r2) := H
  simp only [Option.some.injEq, Prod.mk.injEq] at H
  obtain ⟨rfl, rfl⟩ := H
  go_enter Try.func20, Try.ntmps20
  go_wp2_with (first | ((with_reducible refine gate_dst (N := 9) rfl ?_); refine Kd.R_lit (Kd.int .i64) _ 2 ?hg (N := 9) ?hd (xs := ([a1] : List Int)) (inner := [.int .i64 a1]) (ok := fun _ => True) (okp := fun _ => True) ?hr ?hp (fun _ hk => hk) trivial (Below.refl _ _) (Nat.le_refl _) (by simp) ?_; (case hd => rfl); (case hg => rfl); (case hr => first | (go_simp; done) | (go_simp; rfl)); (case hp => exact (Reps.one (show Kd.M (Kd.int .i64) _ _ _ a1 [.int .i64 a1] from rfl) (Reps.none _ _))); intro v378 w6 ho7 hb hg_ hnew_; clear hg_ hnew_; (first | rw [← Ny377.out] at ho7 | (simp only [Int.reduceToNat] at ho7; rw [← Ny377.out] at ho7)); have HO379 := Aside0.mk (Kd.R_lower ho7 (below_size (hq_ HB))); replace HB := bs_ w hb; clear hb ho7; obtain ⟨Ao8, co8, eo8⟩ := Kd.R_slice HO379.out; subst eo8) | ((with_reducible refine gate_callee (f := 33) rfl ?_); refine goesA_ (some 10) Try.func33 #[.slice A0 l0.length c0, .slice Ao8 y377.length co8] ?_; (with_reducible refine (levels_check.calls k _ _ l0 _ _ y377 t380 _ ?side1 ?side2 ?side3 ?side4 A3.out).mono ?_); (case side1 => exact cs_ HR0 HB); (case side2 => exact HC0.out); (case side3 => exact cr_ HO379); (case side4 => exact (Kd.R_reads' HO379.out).2.1); rintro e w9 ⟨rfl, hb⟩; refine ⟨_, rfl, ?_⟩; replace HO379 := rb_ HO379 hb; replace HB := bs_ w hb; clear hb) | ((with_reducible refine gate_callee (f := 39) rfl ?_); refine goesA_ (some 16) Try.func39 #[.slice A0 l0.length c0, .int .i64 a1] ?_; (with_reducible refine (levels_holds.calls _ _ l0 a1 t381 _ ?side1 ?side2 A5.out).mono ?_); (case side1 => exact cs_ HR0 HB); (case side2 => exact HC0.out); rintro e w10 ⟨rfl, hb⟩; refine ⟨_, rfl, ?_⟩; replace HO379 := rb_ HO379 hb; replace HB := bs_ w hb; clear hb))
  go_ret2
  exact fi_
 ·rw [if_neg c4] at H
  have c4b0 : (t380 == 0) = false := beq_eq_false_iff_ne.mpr c4
  have c4b1 : (t380 != 0) = true := bne_iff_ne.mpr c4
  simp only [Option.some.injEq, Prod.mk.injEq] at H
  obtain ⟨rfl, rfl⟩ := H
  go_enter Try.func20, Try.ntmps20
  go_wp2_with (first | ((with_reducible refine gate_dst (N := 9) rfl ?_); refine Kd.R_lit (Kd.int .i64) _ 2 ?hg (N := 9) ?hd (xs := ([a1] : List Int)) (inner := [.int .i64 a1]) (ok := fun _ => True) (okp := fun _ => True) ?hr ?hp (fun _ hk => hk) trivial (Below.refl _ _) (Nat.le_refl _) (by simp) ?_; (case hd => rfl); (case hg => rfl); (case hr => first | (go_simp; done) | (go_simp; rfl)); (case hp => exact (Reps.one (show Kd.M (Kd.int .i64) _ _ _ a1 [.int .i64 a1] from rfl) (Reps.none _ _))); intro v378 w11 ho12 hb hg_ hnew_; clear hg_ hnew_; (first | rw [← Ny377.out] at ho12 | (simp only [Int.reduceToNat] at ho12; rw [← Ny377.out] at ho12)); have HO379 := Aside0.mk (Kd.R_lower ho12 (below_size (hq_ HB))); replace HB := bs_ w hb; clear hb ho12; obtain ⟨Ao13, co13, eo13⟩ := Kd.R_slice HO379.out; subst eo13) | ((with_reducible refine gate_callee (f := 33) rfl ?_); refine goesA_ (some 10) Try.func33 #[.slice A0 l0.length c0, .slice Ao13 y377.length co13] ?_; (with_reducible refine (levels_check.calls k _ _ l0 _ _ y377 t380 _ ?side1 ?side2 ?side3 ?side4 A3.out).mono ?_); (case side1 => exact cs_ HR0 HB); (case side2 => exact HC0.out); (case side3 => exact cr_ HO379); (case side4 => exact (Kd.R_reads' HO379.out).2.1); rintro e w14 ⟨rfl, hb⟩; refine ⟨_, rfl, ?_⟩; replace HO379 := rb_ HO379 hb; replace HB := bs_ w hb; clear hb))
  go_ret2
  exact fi_

end Go.Proofs.Ytaegpnbgppjicaa.X
