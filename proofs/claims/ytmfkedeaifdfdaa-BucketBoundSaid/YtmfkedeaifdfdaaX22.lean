-- written by xprint.py, a program of this session over the kit's print
import Derived.Test.YtmfkedeaifdfdaaX0
import Derived.Test.YtmfkedeaifdfdaaX2
import Derived.Test.YtmfkedeaifdfdaaX20
import Derived.Test.YtmfkedeaifdfdaaX21
namespace Go.Proofs.Ytmfkedeaifdfdaa.X
open Go.RowKit Go.Proofs.YtmfkedeaifdfdaaW.PrintWords Go.Proofs.YtmfkedeaifdfdaaW.PrintLast Go.Proofs.YtmfkedeaifdfdaaW.PrintMore
attribute [local go_sem] max2_int min2_int max_two min_two max_three min_three max_four min_four   -- for this text's walks alone
set_option linter.unusedVariables false
set_option linter.unusedSimpArgs false

attribute [local go_sem high] eqA26
/-! ### spigotlaw03_alive: function 27 -/
def spigotlaw03_alive.f (k : Nat)  : Option (Bool) := (spigotlaw03_given.f).bind fun bt376 => ((bucket_Change.f k bt376.1 bt376.2.1 bt376.2.2.1 bt376.2.2.2.1 bt376.2.2.2.2.1 bt376.2.2.2.2.2 4 1 1 3).bind fun bt383 => (if bt376.2.2.2.1 = 1 then ((spigotlaw03_holds.f k bt376.1 bt376.2.1 bt376.2.2.1 bt376.2.2.2.1 bt376.2.2.2.2.1 bt376.2.2.2.2.2 3 5 1).bind fun t391 => (if t391 = true then ((spigotlaw03_holds.f k bt376.1 bt376.2.1 bt376.2.2.1 bt376.2.2.2.1 bt376.2.2.2.2.1 bt376.2.2.2.2.2 4 7 0).bind fun t392 => (if t392 = true then ((spigotlaw03_holds.f k bt376.1 bt376.2.1 bt376.2.2.1 bt376.2.2.2.1 bt376.2.2.2.2.1 bt376.2.2.2.2.2 6 10 0).bind fun t393 => (if t393 = true then ((spigotlaw03_waits.f k bt376.1 bt376.2.1 bt376.2.2.1 bt376.2.2.2.1 bt376.2.2.2.2.1 bt376.2.2.2.2.2 5 3).bind fun t394 => (if t394 = true then ((spigotlaw03_waits.f k bt376.1 bt376.2.1 bt376.2.2.1 bt376.2.2.2.1 bt376.2.2.2.2.1 bt376.2.2.2.2.2 11 18446744073709551615).bind fun t395 => (if t395 = true then (if bt383.2.2.2.2.2.2 = 0 then (some ((bt383.1 == 4 && (bt383.2.1 == 1 && (bt383.2.2.1 == 1))) && (bt383.2.2.2.1 == 4 && (bt383.2.2.2.2.1 == 0 && (bt383.2.2.2.2.2.1 == 3))))) else (none)) else (none))) else (none))) else (none))) else (none))) else (none))) else (none)))
theorem spigotlaw03_alive.mono : ∀ k, LeO (spigotlaw03_alive.f k ) (spigotlaw03_alive.f (k + 1) ) := by
  intro  k
  unfold spigotlaw03_alive.f
  repeat' first
      | (with_reducible exact bucket_Change.mono _ _ _ _ _ _ _ _ _ _ _)
      | (with_reducible exact spigotlaw03_holds.mono _ _ _ _ _ _ _ _ _ _)
      | (with_reducible exact spigotlaw03_waits.mono _ _ _ _ _ _ _ _ _)
      | (with_reducible exact LeO.refl _)
      | (with_reducible exact LeO.none _)
      | (with_reducible refine LeO.ite ?_ ?_)
      | (with_reducible refine LeO.bind ?_ (fun _ => ?_))
      | exact bucket_Change.mono _ _ _ _ _ _ _ _ _ _ _
      | exact spigotlaw03_holds.mono _ _ _ _ _ _ _ _ _ _
      | exact spigotlaw03_waits.mono _ _ _ _ _ _ _ _ _
      | exact LeO.none _
      | refine LeO.ite ?_ ?_
      | refine LeO.bind ?_ (fun _ => ?_)
set_option maxHeartbeats 8000000 in
set_option maxRecDepth 100000 in
theorem spigotlaw03_alive.calls (k : Nat)  (r : Bool) (w : World) (h : spigotlaw03_alive.f k  = some r) :
  Calls Try.prog 27 #[] w fun e w' => e = .returned (.bool r) ∧ Below w.heap.size w w' := by
 have hu26 := Try.underlying26
 have hu23 := Try.underlying23
 have HB := Aside0.mk (Below.refl w.heap.size w)
 have H : ((spigotlaw03_given.f).bind fun bt376 => ((bucket_Change.f k bt376.1 bt376.2.1 bt376.2.2.1 bt376.2.2.2.1 bt376.2.2.2.2.1 bt376.2.2.2.2.2 4 1 1 3).bind fun bt383 => (if bt376.2.2.2.1 = 1 then ((spigotlaw03_holds.f k bt376.1 bt376.2.1 bt376.2.2.1 bt376.2.2.2.1 bt376.2.2.2.2.1 bt376.2.2.2.2.2 3 5 1).bind fun t391 => (if t391 = true then ((spigotlaw03_holds.f k bt376.1 bt376.2.1 bt376.2.2.1 bt376.2.2.2.1 bt376.2.2.2.2.1 bt376.2.2.2.2.2 4 7 0).bind fun t392 => (if t392 = true then ((spigotlaw03_holds.f k bt376.1 bt376.2.1 bt376.2.2.1 bt376.2.2.2.1 bt376.2.2.2.2.1 bt376.2.2.2.2.2 6 10 0).bind fun t393 => (if t393 = true then ((spigotlaw03_waits.f k bt376.1 bt376.2.1 bt376.2.2.1 bt376.2.2.2.1 bt376.2.2.2.2.1 bt376.2.2.2.2.2 5 3).bind fun t394 => (if t394 = true then ((spigotlaw03_waits.f k bt376.1 bt376.2.1 bt376.2.2.1 bt376.2.2.2.1 bt376.2.2.2.2.1 bt376.2.2.2.2.2 11 18446744073709551615).bind fun t395 => (if t395 = true then (if bt383.2.2.2.2.2.2 = 0 then (some ((bt383.1 == 4 && (bt383.2.1 == 1 && (bt383.2.2.1 == 1))) && (bt383.2.2.2.1 == 4 && (bt383.2.2.2.2.1 == 0 && (bt383.2.2.2.2.2.1 == 3))))) else (none)) else (none))) else (none))) else (none))) else (none))) else (none))) else (none)))) = some r := h
 clear h
 replace H := Option.bind_eq_some_iff.mp H
 obtain ⟨⟨t376, t377, t378, t379, t380, t381⟩, A10, H⟩ := H
 try dsimp only at H
 have A1 := Aside0.mk A10
 clear A10
 replace H := Option.bind_eq_some_iff.mp H
 obtain ⟨⟨t383, t384, t385, t386, t387, t388, t389⟩, A20, H⟩ := H
 try dsimp only at H
 have A2 := Aside0.mk A20
 clear A20
 by_cases c3 : t379 = 1
 rotate_left
 ·rw [if_neg c3] at H; exact absurd H (by simp)
 rw [if_pos c3] at H
 have c3b0 : (t379 == 1) = true := beq_iff_eq.mpr c3
 have c3b1 : (t379 != 1) = false := bne_eq_false_iff_eq.mpr c3
 clear c3
 replace H := Option.bind_eq_some_iff.mp H
 obtain ⟨t391, A40, H⟩ := H
 try dsimp only at H
 have A4 := Aside0.mk A40
 clear A40
 by_cases c5 : t391 = true
 ·subst c5
  have H1 : ((spigotlaw03_holds.f k t376 t377 t378 t379 t380 t381 4 7 0).bind fun t392 => (if t392 = true then ((spigotlaw03_holds.f k t376 t377 t378 t379 t380 t381 6 10 0).bind fun t393 => (if t393 = true then ((spigotlaw03_waits.f k t376 t377 t378 t379 t380 t381 5 3).bind fun t394 => (if t394 = true then ((spigotlaw03_waits.f k t376 t377 t378 t379 t380 t381 11 18446744073709551615).bind fun t395 => (if t395 = true then (if t389 = 0 then (some ((t383 == 4 && (t384 == 1 && (t385 == 1))) && (t386 == 4 && (t387 == 0 && (t388 == 3))))) else (none)) else (none))) else (none))) else (none))) else (none))) = some r := by rw [if_pos rfl] at H; exact H
  clear H
  have H := H1
  clear H1
  replace H := Option.bind_eq_some_iff.mp H
  obtain ⟨t392, A60, H⟩ := H
  try dsimp only at H
  have A6 := Aside0.mk A60
  clear A60
  by_cases c7 : t392 = true
  ·subst c7
   have H1 : ((spigotlaw03_holds.f k t376 t377 t378 t379 t380 t381 6 10 0).bind fun t393 => (if t393 = true then ((spigotlaw03_waits.f k t376 t377 t378 t379 t380 t381 5 3).bind fun t394 => (if t394 = true then ((spigotlaw03_waits.f k t376 t377 t378 t379 t380 t381 11 18446744073709551615).bind fun t395 => (if t395 = true then (if t389 = 0 then (some ((t383 == 4 && (t384 == 1 && (t385 == 1))) && (t386 == 4 && (t387 == 0 && (t388 == 3))))) else (none)) else (none))) else (none))) else (none))) = some r := by rw [if_pos rfl] at H; exact H
   clear H
   have H := H1
   clear H1
   replace H := Option.bind_eq_some_iff.mp H
   obtain ⟨t393, A80, H⟩ := H
   try dsimp only at H
   have A8 := Aside0.mk A80
   clear A80
   by_cases c9 : t393 = true
   ·subst c9
    have H1 : ((spigotlaw03_waits.f k t376 t377 t378 t379 t380 t381 5 3).bind fun t394 => (if t394 = true then ((spigotlaw03_waits.f k t376 t377 t378 t379 t380 t381 11 18446744073709551615).bind fun t395 => (if t395 = true then (if t389 = 0 then (some ((t383 == 4 && (t384 == 1 && (t385 == 1))) && (t386 == 4 && (t387 == 0 && (t388 == 3))))) else (none)) else (none))) else (none))) = some r := by rw [if_pos rfl] at H; exact H
    clear H
    have H := H1
    clear H1
    replace H := Option.bind_eq_some_iff.mp H
    obtain ⟨t394, A100, H⟩ := H
    try dsimp only at H
    have A10 := Aside0.mk A100
    clear A100
    by_cases c11 : t394 = true
    ·subst c11
     have H1 : ((spigotlaw03_waits.f k t376 t377 t378 t379 t380 t381 11 18446744073709551615).bind fun t395 => (if t395 = true then (if t389 = 0 then (some ((t383 == 4 && (t384 == 1 && (t385 == 1))) && (t386 == 4 && (t387 == 0 && (t388 == 3))))) else (none)) else (none))) = some r := by rw [if_pos rfl] at H; exact H
     clear H
     have H := H1
     clear H1
     replace H := Option.bind_eq_some_iff.mp H
     obtain ⟨t395, A120, H⟩ := H
     try dsimp only at H
     have A12 := Aside0.mk A120
     clear A120
     by_cases c13 : t395 = true
     ·subst c13
      have H1 : (if t389 = 0 then (some ((t383 == 4 && (t384 == 1 && (t385 == 1))) && (t386 == 4 && (t387 == 0 && (t388 == 3))))) else (none)) = some r := by rw [if_pos rfl] at H; exact H
      clear H
      have H := H1
      clear H1
      by_cases c14 : t389 = 0
      rotate_left
      ·rw [if_neg c14] at H; exact absurd H (by simp)
      rw [if_pos c14] at H
      have c14b0 : (t389 == 0) = true := beq_iff_eq.mpr c14
      have c14b1 : (t389 != 0) = false := bne_eq_false_iff_eq.mpr c14
      clear c14
      obtain rfl := Option.some.inj H
      go_enter Try.func27, Try.ntmps27
      go_wp2_with (first | ((with_reducible refine gate_callee (f := 24) rfl ?_); refine goesL_ (some 4) rfl rfl Try.func24 (by kernel_rfl) rfl #[] rfl (by (try simp only [List.map_toArray, List.map_cons, List.map_nil]); first | done | rfl | (simp only [List.length_drop, List.length_take]; rfl)) ?_; (with_reducible refine (spigotlaw03_given.calls  t376 t377 t378 t379 t380 t381 _ A1.out).mono ?_); rintro e w15 ⟨rfl, hb⟩; refine ⟨_, rfl, ?_⟩; replace HB := bs_ w hb; (try clear hb); (try clear hb2); (try clear hk); (try clear hi)) | ((with_reducible refine gate_dst (N := 1) rfl ?_); refine box_event ?hg (N := 1) ?hd (cs := #[.int .i64 0, .int .i64 0, .int .i64 0, .int .i64 0, .int .i64 0, .int .u64 0]) (t := 26) ?hr ?_; (case hd => rfl); (case hg => rfl); (case hr => first | (go_simp; done) | (go_simp; rfl)); intro gb382 hg w16 hbox hb; have BK382 := Aside0.mk (hbox); have GW382 := bz_ w hg; have GE382 := GW382; replace HB := bs_ w hb; clear hb hbox hg; have hcz17_0 : w16.cell? ⟨gb382, 0, none⟩ = some (.int .i64 0) := (blk_cell BK382.out 0).trans rfl; have hcz17_1 : w16.cell? ⟨gb382, 1, none⟩ = some (.int .i64 0) := (blk_cell BK382.out 1).trans rfl; have hcz17_2 : w16.cell? ⟨gb382, 2, none⟩ = some (.int .i64 0) := (blk_cell BK382.out 2).trans rfl; have hcz17_3 : w16.cell? ⟨gb382, 3, none⟩ = some (.int .i64 0) := (blk_cell BK382.out 3).trans rfl; have hcz17_4 : w16.cell? ⟨gb382, 4, none⟩ = some (.int .i64 0) := (blk_cell BK382.out 4).trans rfl; have hcz17_5 : w16.cell? ⟨gb382, 5, none⟩ = some (.int .u64 0) := (blk_cell BK382.out 5).trans rfl; have hfz17_0 := blk_frozen BK382.out 0; have hfz17_1 := blk_frozen BK382.out 1; have hfz17_2 := blk_frozen BK382.out 2; have hfz17_3 := blk_frozen BK382.out 3; have hfz17_4 := blk_frozen BK382.out 4; have hfz17_5 := blk_frozen BK382.out 5) | ((with_reducible refine gate_callee (f := 22) rfl ?_); refine goesL_ (some 8) rfl rfl Try.func22 (by kernel_rfl) rfl #[.agg #[.int .i64 t376, .int .i64 t377, .int .i64 t378, .int .i64 t379, .int .i64 t380, .int .u64 t381], .agg #[.int .i64 4, .int .i64 1, .int .i64 1], .int .u64 3] rfl (by (try simp only [List.map_toArray, List.map_cons, List.map_nil]); first | done | rfl | (simp only [List.length_drop, List.length_take]; rfl)) ?_; (with_reducible refine (bucket_Change.calls k t376 t377 t378 t379 t380 t381 4 1 1 3 t383 t384 t385 t386 t387 t388 t389 _ A2.out).mono ?_); rintro e w18 ⟨rfl, hb⟩; refine ⟨_, rfl, ?_⟩; replace BK382 := Aside0.mk (blk_below (g := gb382) (o := .cells #[.int .i64 t376, .int .i64 t377, .int .i64 t378, .int .i64 t379, .int .i64 t380, .int .u64 t381] 26 (0, 0)) (blk_put (cs := #[.int .i64 t376, .int .i64 t377, .int .i64 t378, .int .i64 t379, .int .i64 t380, .int .u64 0]) (blk_put (cs := #[.int .i64 t376, .int .i64 t377, .int .i64 t378, .int .i64 t379, .int .i64 0, .int .u64 0]) (blk_put (cs := #[.int .i64 t376, .int .i64 t377, .int .i64 t378, .int .i64 0, .int .i64 0, .int .u64 0]) (blk_put (cs := #[.int .i64 t376, .int .i64 t377, .int .i64 0, .int .i64 0, .int .i64 0, .int .u64 0]) (blk_put (cs := #[.int .i64 t376, .int .i64 0, .int .i64 0, .int .i64 0, .int .i64 0, .int .u64 0]) (blk_put (cs := #[.int .i64 0, .int .i64 0, .int .i64 0, .int .i64 0, .int .i64 0, .int .u64 0]) (bq_ BK382) 0 _ rfl) 1 _ rfl) 2 _ rfl) 3 _ rfl) 4 _ rfl) 5 _ rfl) hb); replace HB := bs_ w hb; (try clear hb); (try clear hb2); (try clear hk); (try clear hi)) | ((with_reducible refine gate_dst (N := 2) rfl ?_); refine box_event ?hg (N := 2) ?hd (cs := #[.int .i64 0, .int .i64 0, .int .i64 0, .int .i64 0, .int .i64 0, .int .u64 0]) (t := 26) ?hr ?_; (case hd => rfl); (case hg => rfl); (case hr => first | (go_simp; done) | (go_simp; rfl)); intro gb390 hg w19 hbox hb; have BK390 := Aside0.mk (hbox); have GW390 := bz_ w hg; have GE390 := GW390; have NB382_390 := bn_ BK382 hg; have NB390_382 := bm_ BK382 hg; replace BK382 := bb_ BK382 hb; replace HB := bs_ w hb; clear hb hbox hg; have hnb20 := NB390_382.out; have hnc20 := NB382_390.out; have hcz21_0 : w19.cell? ⟨gb390, 0, none⟩ = some (.int .i64 0) := (blk_cell BK390.out 0).trans rfl; have hcz21_1 : w19.cell? ⟨gb390, 1, none⟩ = some (.int .i64 0) := (blk_cell BK390.out 1).trans rfl; have hcz21_2 : w19.cell? ⟨gb390, 2, none⟩ = some (.int .i64 0) := (blk_cell BK390.out 2).trans rfl; have hcz21_3 : w19.cell? ⟨gb390, 3, none⟩ = some (.int .i64 0) := (blk_cell BK390.out 3).trans rfl; have hcz21_4 : w19.cell? ⟨gb390, 4, none⟩ = some (.int .i64 0) := (blk_cell BK390.out 4).trans rfl; have hcz21_5 : w19.cell? ⟨gb390, 5, none⟩ = some (.int .u64 0) := (blk_cell BK390.out 5).trans rfl; have hfz21_0 := blk_frozen BK390.out 0; have hfz21_1 := blk_frozen BK390.out 1; have hfz21_2 := blk_frozen BK390.out 2; have hfz21_3 := blk_frozen BK390.out 3; have hfz21_4 := blk_frozen BK390.out 4; have hfz21_5 := blk_frozen BK390.out 5; have hcz22_0 : w19.cell? ⟨gb382, 0, none⟩ = some (.int .i64 t376) := (blk_cell BK382.out 0).trans rfl; have hcz22_1 : w19.cell? ⟨gb382, 1, none⟩ = some (.int .i64 t377) := (blk_cell BK382.out 1).trans rfl; have hcz22_2 : w19.cell? ⟨gb382, 2, none⟩ = some (.int .i64 t378) := (blk_cell BK382.out 2).trans rfl; have hcz22_3 : w19.cell? ⟨gb382, 3, none⟩ = some (.int .i64 t379) := (blk_cell BK382.out 3).trans rfl; have hcz22_4 : w19.cell? ⟨gb382, 4, none⟩ = some (.int .i64 t380) := (blk_cell BK382.out 4).trans rfl; have hcz22_5 : w19.cell? ⟨gb382, 5, none⟩ = some (.int .u64 t381) := (blk_cell BK382.out 5).trans rfl; have hfz22_0 := blk_frozen BK382.out 0; have hfz22_1 := blk_frozen BK382.out 1; have hfz22_2 := blk_frozen BK382.out 2; have hfz22_3 := blk_frozen BK382.out 3; have hfz22_4 := blk_frozen BK382.out 4; have hfz22_5 := blk_frozen BK382.out 5) | (go_at_call 25; (with_reducible refine (spigotlaw03_holds.calls k t376 t377 t378 t379 t380 t381 3 5 1 true _ A4.out).mono ?_); rintro e w23 ⟨rfl, hb⟩; replace BK382 := bf_ BK382 hb; replace BK390 := Aside0.mk (blk_below (g := gb390) (o := .cells #[.int .i64 t383, .int .i64 t384, .int .i64 t385, .int .i64 t386, .int .i64 t387, .int .u64 t388] 26 (0, 0)) (blk_put (cs := #[.int .i64 t383, .int .i64 t384, .int .i64 t385, .int .i64 t386, .int .i64 t387, .int .u64 0]) (blk_put (cs := #[.int .i64 t383, .int .i64 t384, .int .i64 t385, .int .i64 t386, .int .i64 0, .int .u64 0]) (blk_put (cs := #[.int .i64 t383, .int .i64 t384, .int .i64 t385, .int .i64 0, .int .i64 0, .int .u64 0]) (blk_put (cs := #[.int .i64 t383, .int .i64 t384, .int .i64 0, .int .i64 0, .int .i64 0, .int .u64 0]) (blk_put (cs := #[.int .i64 t383, .int .i64 0, .int .i64 0, .int .i64 0, .int .i64 0, .int .u64 0]) (blk_put (cs := #[.int .i64 0, .int .i64 0, .int .i64 0, .int .i64 0, .int .i64 0, .int .u64 0]) (bq_ BK390) 0 _ rfl) 1 _ rfl) 2 _ rfl) 3 _ rfl) 4 _ rfl) 5 _ rfl) hb); replace HB := bs_ w hb; (try clear hb); (try clear hb2); (try clear hk); (try clear hi); have hcz24_0 : w23.cell? ⟨gb382, 0, none⟩ = some (.int .i64 t376) := (blk_cell BK382.out 0).trans rfl; have hcz24_1 : w23.cell? ⟨gb382, 1, none⟩ = some (.int .i64 t377) := (blk_cell BK382.out 1).trans rfl; have hcz24_2 : w23.cell? ⟨gb382, 2, none⟩ = some (.int .i64 t378) := (blk_cell BK382.out 2).trans rfl; have hcz24_3 : w23.cell? ⟨gb382, 3, none⟩ = some (.int .i64 t379) := (blk_cell BK382.out 3).trans rfl; have hcz24_4 : w23.cell? ⟨gb382, 4, none⟩ = some (.int .i64 t380) := (blk_cell BK382.out 4).trans rfl; have hcz24_5 : w23.cell? ⟨gb382, 5, none⟩ = some (.int .u64 t381) := (blk_cell BK382.out 5).trans rfl; have hfz24_0 := blk_frozen BK382.out 0; have hfz24_1 := blk_frozen BK382.out 1; have hfz24_2 := blk_frozen BK382.out 2; have hfz24_3 := blk_frozen BK382.out 3; have hfz24_4 := blk_frozen BK382.out 4; have hfz24_5 := blk_frozen BK382.out 5) | (go_at_call 25; (with_reducible refine (spigotlaw03_holds.calls k t376 t377 t378 t379 t380 t381 4 7 0 true _ A6.out).mono ?_); rintro e w25 ⟨rfl, hb⟩; replace BK382 := bb_ BK382 hb; replace BK390 := bb_ BK390 hb; replace HB := bs_ w hb; (try clear hb); (try clear hb2); (try clear hk); (try clear hi); have hcz26_0 : w25.cell? ⟨gb382, 0, none⟩ = some (.int .i64 t376) := (blk_cell BK382.out 0).trans rfl; have hcz26_1 : w25.cell? ⟨gb382, 1, none⟩ = some (.int .i64 t377) := (blk_cell BK382.out 1).trans rfl; have hcz26_2 : w25.cell? ⟨gb382, 2, none⟩ = some (.int .i64 t378) := (blk_cell BK382.out 2).trans rfl; have hcz26_3 : w25.cell? ⟨gb382, 3, none⟩ = some (.int .i64 t379) := (blk_cell BK382.out 3).trans rfl; have hcz26_4 : w25.cell? ⟨gb382, 4, none⟩ = some (.int .i64 t380) := (blk_cell BK382.out 4).trans rfl; have hcz26_5 : w25.cell? ⟨gb382, 5, none⟩ = some (.int .u64 t381) := (blk_cell BK382.out 5).trans rfl; have hfz26_0 := blk_frozen BK382.out 0; have hfz26_1 := blk_frozen BK382.out 1; have hfz26_2 := blk_frozen BK382.out 2; have hfz26_3 := blk_frozen BK382.out 3; have hfz26_4 := blk_frozen BK382.out 4; have hfz26_5 := blk_frozen BK382.out 5) | (go_at_call 25; (with_reducible refine (spigotlaw03_holds.calls k t376 t377 t378 t379 t380 t381 6 10 0 true _ A8.out).mono ?_); rintro e w27 ⟨rfl, hb⟩; replace BK382 := bb_ BK382 hb; replace BK390 := bb_ BK390 hb; replace HB := bs_ w hb; (try clear hb); (try clear hb2); (try clear hk); (try clear hi); have hcz28_0 : w27.cell? ⟨gb382, 0, none⟩ = some (.int .i64 t376) := (blk_cell BK382.out 0).trans rfl; have hcz28_1 : w27.cell? ⟨gb382, 1, none⟩ = some (.int .i64 t377) := (blk_cell BK382.out 1).trans rfl; have hcz28_2 : w27.cell? ⟨gb382, 2, none⟩ = some (.int .i64 t378) := (blk_cell BK382.out 2).trans rfl; have hcz28_3 : w27.cell? ⟨gb382, 3, none⟩ = some (.int .i64 t379) := (blk_cell BK382.out 3).trans rfl; have hcz28_4 : w27.cell? ⟨gb382, 4, none⟩ = some (.int .i64 t380) := (blk_cell BK382.out 4).trans rfl; have hcz28_5 : w27.cell? ⟨gb382, 5, none⟩ = some (.int .u64 t381) := (blk_cell BK382.out 5).trans rfl; have hfz28_0 := blk_frozen BK382.out 0; have hfz28_1 := blk_frozen BK382.out 1; have hfz28_2 := blk_frozen BK382.out 2; have hfz28_3 := blk_frozen BK382.out 3; have hfz28_4 := blk_frozen BK382.out 4; have hfz28_5 := blk_frozen BK382.out 5) | (go_at_call 26; (with_reducible refine (spigotlaw03_waits.calls k t376 t377 t378 t379 t380 t381 5 3 true _ A10.out).mono ?_); rintro e w29 ⟨rfl, hb⟩; replace BK382 := bb_ BK382 hb; replace BK390 := bb_ BK390 hb; replace HB := bs_ w hb; (try clear hb); (try clear hb2); (try clear hk); (try clear hi); have hcz30_0 : w29.cell? ⟨gb382, 0, none⟩ = some (.int .i64 t376) := (blk_cell BK382.out 0).trans rfl; have hcz30_1 : w29.cell? ⟨gb382, 1, none⟩ = some (.int .i64 t377) := (blk_cell BK382.out 1).trans rfl; have hcz30_2 : w29.cell? ⟨gb382, 2, none⟩ = some (.int .i64 t378) := (blk_cell BK382.out 2).trans rfl; have hcz30_3 : w29.cell? ⟨gb382, 3, none⟩ = some (.int .i64 t379) := (blk_cell BK382.out 3).trans rfl; have hcz30_4 : w29.cell? ⟨gb382, 4, none⟩ = some (.int .i64 t380) := (blk_cell BK382.out 4).trans rfl; have hcz30_5 : w29.cell? ⟨gb382, 5, none⟩ = some (.int .u64 t381) := (blk_cell BK382.out 5).trans rfl; have hfz30_0 := blk_frozen BK382.out 0; have hfz30_1 := blk_frozen BK382.out 1; have hfz30_2 := blk_frozen BK382.out 2; have hfz30_3 := blk_frozen BK382.out 3; have hfz30_4 := blk_frozen BK382.out 4; have hfz30_5 := blk_frozen BK382.out 5) | (go_at_call 26; (with_reducible refine (spigotlaw03_waits.calls k t376 t377 t378 t379 t380 t381 11 18446744073709551615 true _ A12.out).mono ?_); rintro e w31 ⟨rfl, hb⟩; replace BK382 := bb_ BK382 hb; replace BK390 := bb_ BK390 hb; replace HB := bs_ w hb; (try clear hb); (try clear hb2); (try clear hk); (try clear hi); have hcz32_0 : w31.cell? ⟨gb390, 0, none⟩ = some (.int .i64 t383) := (blk_cell BK390.out 0).trans rfl; have hcz32_1 : w31.cell? ⟨gb390, 1, none⟩ = some (.int .i64 t384) := (blk_cell BK390.out 1).trans rfl; have hcz32_2 : w31.cell? ⟨gb390, 2, none⟩ = some (.int .i64 t385) := (blk_cell BK390.out 2).trans rfl; have hcz32_3 : w31.cell? ⟨gb390, 3, none⟩ = some (.int .i64 t386) := (blk_cell BK390.out 3).trans rfl; have hcz32_4 : w31.cell? ⟨gb390, 4, none⟩ = some (.int .i64 t387) := (blk_cell BK390.out 4).trans rfl; have hcz32_5 : w31.cell? ⟨gb390, 5, none⟩ = some (.int .u64 t388) := (blk_cell BK390.out 5).trans rfl; have hfz32_0 := blk_frozen BK390.out 0; have hfz32_1 := blk_frozen BK390.out 1; have hfz32_2 := blk_frozen BK390.out 2; have hfz32_3 := blk_frozen BK390.out 3; have hfz32_4 := blk_frozen BK390.out 4; have hfz32_5 := blk_frozen BK390.out 5))
      go_ret
      exact ⟨by first | rfl | (simp [errW_none, errW_some] <;> rfl) | (simp [*, errW_none, errW_some] <;> rfl), by repeat (first | (with_reducible first | exact HB.out | apply below_alloc | apply pw_below_drewN | apply below_drew1 | refine below_set ?_ GE382.out | refine below_set ?_ GE390.out) | exact HB.out)⟩
     ·replace c13 := Bool.eq_false_iff.mpr c13
      subst c13
      have H1 : (none) = some r := by rw [if_neg (show ¬ (false = true) by decide)] at H; exact H
      clear H
      have H := H1
      clear H1
      exact absurd H (by simp)
    ·replace c11 := Bool.eq_false_iff.mpr c11
     subst c11
     have H1 : (none) = some r := by rw [if_neg (show ¬ (false = true) by decide)] at H; exact H
     clear H
     have H := H1
     clear H1
     exact absurd H (by simp)
   ·replace c9 := Bool.eq_false_iff.mpr c9
    subst c9
    have H1 : (none) = some r := by rw [if_neg (show ¬ (false = true) by decide)] at H; exact H
    clear H
    have H := H1
    clear H1
    exact absurd H (by simp)
  ·replace c7 := Bool.eq_false_iff.mpr c7
   subst c7
   have H1 : (none) = some r := by rw [if_neg (show ¬ (false = true) by decide)] at H; exact H
   clear H
   have H := H1
   clear H1
   exact absurd H (by simp)
 ·replace c5 := Bool.eq_false_iff.mpr c5
  subst c5
  have H1 : (none) = some r := by rw [if_neg (show ¬ (false = true) by decide)] at H; exact H
  clear H
  have H := H1
  clear H1
  exact absurd H (by simp)

end Go.Proofs.Ytmfkedeaifdfdaa.X
