-- written by xprint.py, a program of this session over the kit's print
import Derived.Test.YtjjmnafhaneflaaX0
import Derived.Test.YtjjmnafhaneflaaX4
import Derived.Test.YtjjmnafhaneflaaX8
import Derived.Test.YtjjmnafhaneflaaX9
import Derived.Test.YtjjmnafhaneflaaX10
import Derived.Test.YtjjmnafhaneflaaX14
import Derived.Test.YtjjmnafhaneflaaX19
import Derived.Test.YtjjmnafhaneflaaX23
import Derived.Test.YtjjmnafhaneflaaX25
namespace Go.Proofs.Ytjjmnafhaneflaa.X
open Go.RowKit Go.Proofs.YtjjmnafhaneflaaW.PrintWords Go.Proofs.YtjjmnafhaneflaaW.PrintLast Go.Proofs.YtjjmnafhaneflaaW.PrintMore
attribute [local go_sem] max2_int min2_int max_two min_two max_three min_three max_four min_four   -- for this text's walks alone
set_option linter.unusedVariables false
set_option linter.unusedSimpArgs false

/-! ### spigotlaw38_WindowFixed: function 6 -/
mutual
def spigotlaw38_WindowFixed.j0 : Nat → List (S58) → Bool → Bool → Int → Int → Option (Bool)
  | 0, _, _, _, _, _ => none
  | k + 1, x1, x5, x35, x318000, x318001 => if x35 = true then (some x5) else ((window_Fixed.f k x318000 x318001 x1).bind fun bt322 => (if bt322.2 = 0 then ((spigotref38_Charges.f k bt322.1).bind fun t326 => (if t326 = 0 then (if (bt322.1.length : Int) > (x1.length : Int) then (none) else ((window_Most.f k x318000 x318001 bt322.1).bind fun bt327 => ((window_Counts.f k x318000 x318001 bt322.1).bind fun bt329 => ((window_Counts.f k x318000 x318001 x1).bind fun bt333 => ((window_Fixed.f k x318000 x318001 bt322.1).bind fun bt337 => (if bt327.2 = 0 then (if bt327.1 > (wrap64 (2 * x318000)) then (none) else (if bt329.2 = 0 then (if bt333.2 = 0 then (if bt337.2 = 0 then ((spigotref38_Same.f k bt337.1 bt322.1).bind fun t341 => (if t341 = true then (spigotlaw38_WindowFixed.l0 k x1 x5 bt322.1 bt329.1 bt333.1 true 0 x318000 x318001) else (none))) else (none)) else (none)) else (none))) else (none))))))) else (none))) else (none)))
def spigotlaw38_WindowFixed.l0 : Nat → List (S58) → Bool → List (S58) → List (S56) → List (S56) → Bool → Int → Int → Int → Option (Bool)
  | 0, _, _, _, _, _, _, _, _, _ => none
  | k + 1, x1, x5, x6, x10, x12, x16, x17, x318000, x318001 => if x17 < (x10.length : Int) then (if 0 ≤ x17 then (if ((rd_T56 x10 x17).f1) > x318000 then (none) else (if (IntKind.u64.wrap (x318001)) = 0 then (none) else (if (Int.tmod ((rd_T56 x10 x17).f0) (IntKind.u64.wrap (x318001))) = 0 then (if x17 > 0 then (if 0 ≤ (wrap64 (x17 - 1)) then (if (wrap64 (x17 - 1)) < (x10.length : Int) then (if ((rd_T56 x10 x17).f0) ≤ ((rd_T56 x10 (wrap64 (x17 - 1))).f0) then (none) else (spigotlaw38_WindowFixed.l0 k x1 x5 x6 x10 x12 x16 (wrap64 (x17 + 1)) x318000 x318001)) else (none)) else (none)) else (spigotlaw38_WindowFixed.l0 k x1 x5 x6 x10 x12 x16 (wrap64 (x17 + 1)) x318000 x318001)) else (none)))) else (none)) else (spigotlaw38_WindowFixed.l1 k x1 x5 x6 x12 x16 0 x318000 x318001)
def spigotlaw38_WindowFixed.l1 : Nat → List (S58) → Bool → List (S58) → List (S56) → Bool → Int → Int → Int → Option (Bool)
  | 0, _, _, _, _, _, _, _, _ => none
  | k + 1, x1, x5, x6, x12, x16, x18, x318000, x318001 => if x18 < (x12.length : Int) then (if x16 = true then (if 0 ≤ x18 then (spigotlaw38_WindowFixed.l1 k x1 x5 x6 x12 (decide (((rd_T56 x12 x18).f1) ≤ x318000)) (wrap64 (x18 + 1)) x318000 x318001) else (none)) else (spigotlaw38_WindowFixed.l1 k x1 x5 x6 x12 false (wrap64 (x18 + 1)) x318000 x318001)) else (if x5 = true then ((spigotref38_Same.f k x6 x1).bind fun t347 => (some (x16 == t347))) else (none))
end
def spigotlaw38_WindowFixed.f (k : Nat) (a0_0 : Int) (a0_1 : Int) (l1 : List (S58)) : Option (Bool) := (spigotlaw38_alive.f k).bind fun t318 => ((spigotref38_Great.f l1).bind fun t319 => (if t319 = true then (spigotlaw38_WindowFixed.j0 k l1 t318 true a0_0 a0_1) else ((spigotref38_Check.f a0_0 a0_1).bind fun t320 => (if t320 = 0 then ((spigotref38_Charges.f k l1).bind fun t321 => (if t321 = 0 then (spigotlaw38_WindowFixed.j0 k l1 t318 (!t318) a0_0 a0_1) else (spigotlaw38_WindowFixed.j0 k l1 t318 true a0_0 a0_1))) else (spigotlaw38_WindowFixed.j0 k l1 t318 true a0_0 a0_1)))))
theorem spigotlaw38_WindowFixed.mono_l : ∀ k, (∀ y0 y1 y2 y3 y4, LeO (spigotlaw38_WindowFixed.j0 k y0 y1 y2 y3 y4) (spigotlaw38_WindowFixed.j0 (k + 1) y0 y1 y2 y3 y4)) ∧ (∀ y0 y1 y2 y3 y4 y5 y6 y7 y8, LeO (spigotlaw38_WindowFixed.l0 k y0 y1 y2 y3 y4 y5 y6 y7 y8) (spigotlaw38_WindowFixed.l0 (k + 1) y0 y1 y2 y3 y4 y5 y6 y7 y8)) ∧ (∀ y0 y1 y2 y3 y4 y5 y6 y7, LeO (spigotlaw38_WindowFixed.l1 k y0 y1 y2 y3 y4 y5 y6 y7) (spigotlaw38_WindowFixed.l1 (k + 1) y0 y1 y2 y3 y4 y5 y6 y7))
  | 0 => ⟨fun _ _ _ _ _ r h => by simp [spigotlaw38_WindowFixed.j0] at h, fun _ _ _ _ _ _ _ _ _ r h => by simp [spigotlaw38_WindowFixed.l0] at h, fun _ _ _ _ _ _ _ _ r h => by simp [spigotlaw38_WindowFixed.l1] at h⟩
  | k + 1 => by
    obtain ⟨ih0, ih1, ih2⟩ := spigotlaw38_WindowFixed.mono_l k
    refine ⟨?_, ?_, ?_⟩
    · intro y0 y1 y2 y3 y4
      unfold spigotlaw38_WindowFixed.j0
      repeat' first
      | (with_reducible exact ih0 _ _ _ _ _)
      | (with_reducible exact ih1 _ _ _ _ _ _ _ _ _)
      | (with_reducible exact ih2 _ _ _ _ _ _ _ _)
      | (with_reducible exact spigotlaw38_alive.mono _)
      | (with_reducible exact spigotref38_Charges.mono _ _)
      | (with_reducible exact spigotref38_Same.mono _ _ _)
      | (with_reducible exact window_Counts.mono _ _ _ _)
      | (with_reducible exact window_Fixed.mono _ _ _ _)
      | (with_reducible exact window_Most.mono _ _ _ _)
      | (with_reducible exact LeO.refl _)
      | (with_reducible exact LeO.none _)
      | (with_reducible refine LeO.ite ?_ ?_)
      | (with_reducible refine LeO.bind ?_ (fun _ => ?_))
      | exact ih0 _ _ _ _ _
      | exact ih1 _ _ _ _ _ _ _ _ _
      | exact ih2 _ _ _ _ _ _ _ _
      | exact spigotlaw38_alive.mono _
      | exact spigotref38_Charges.mono _ _
      | exact spigotref38_Same.mono _ _ _
      | exact window_Counts.mono _ _ _ _
      | exact window_Fixed.mono _ _ _ _
      | exact window_Most.mono _ _ _ _
      | exact LeO.none _
      | refine LeO.ite ?_ ?_
      | refine LeO.bind ?_ (fun _ => ?_)
    · intro y0 y1 y2 y3 y4 y5 y6 y7 y8
      unfold spigotlaw38_WindowFixed.l0
      repeat' first
      | (with_reducible exact ih0 _ _ _ _ _)
      | (with_reducible exact ih1 _ _ _ _ _ _ _ _ _)
      | (with_reducible exact ih2 _ _ _ _ _ _ _ _)
      | (with_reducible exact spigotlaw38_alive.mono _)
      | (with_reducible exact spigotref38_Charges.mono _ _)
      | (with_reducible exact spigotref38_Same.mono _ _ _)
      | (with_reducible exact window_Counts.mono _ _ _ _)
      | (with_reducible exact window_Fixed.mono _ _ _ _)
      | (with_reducible exact window_Most.mono _ _ _ _)
      | (with_reducible exact LeO.refl _)
      | (with_reducible exact LeO.none _)
      | (with_reducible refine LeO.ite ?_ ?_)
      | (with_reducible refine LeO.bind ?_ (fun _ => ?_))
      | exact ih0 _ _ _ _ _
      | exact ih1 _ _ _ _ _ _ _ _ _
      | exact ih2 _ _ _ _ _ _ _ _
      | exact spigotlaw38_alive.mono _
      | exact spigotref38_Charges.mono _ _
      | exact spigotref38_Same.mono _ _ _
      | exact window_Counts.mono _ _ _ _
      | exact window_Fixed.mono _ _ _ _
      | exact window_Most.mono _ _ _ _
      | exact LeO.none _
      | refine LeO.ite ?_ ?_
      | refine LeO.bind ?_ (fun _ => ?_)
    · intro y0 y1 y2 y3 y4 y5 y6 y7
      unfold spigotlaw38_WindowFixed.l1
      repeat' first
      | (with_reducible exact ih0 _ _ _ _ _)
      | (with_reducible exact ih1 _ _ _ _ _ _ _ _ _)
      | (with_reducible exact ih2 _ _ _ _ _ _ _ _)
      | (with_reducible exact spigotlaw38_alive.mono _)
      | (with_reducible exact spigotref38_Charges.mono _ _)
      | (with_reducible exact spigotref38_Same.mono _ _ _)
      | (with_reducible exact window_Counts.mono _ _ _ _)
      | (with_reducible exact window_Fixed.mono _ _ _ _)
      | (with_reducible exact window_Most.mono _ _ _ _)
      | (with_reducible exact LeO.refl _)
      | (with_reducible exact LeO.none _)
      | (with_reducible refine LeO.ite ?_ ?_)
      | (with_reducible refine LeO.bind ?_ (fun _ => ?_))
      | exact ih0 _ _ _ _ _
      | exact ih1 _ _ _ _ _ _ _ _ _
      | exact ih2 _ _ _ _ _ _ _ _
      | exact spigotlaw38_alive.mono _
      | exact spigotref38_Charges.mono _ _
      | exact spigotref38_Same.mono _ _ _
      | exact window_Counts.mono _ _ _ _
      | exact window_Fixed.mono _ _ _ _
      | exact window_Most.mono _ _ _ _
      | exact LeO.none _
      | refine LeO.ite ?_ ?_
      | refine LeO.bind ?_ (fun _ => ?_)
theorem spigotlaw38_WindowFixed.mono : ∀ a0 a1 a2 k, LeO (spigotlaw38_WindowFixed.f k a0 a1 a2) (spigotlaw38_WindowFixed.f (k + 1) a0 a1 a2) := by
  intro a0 a1 a2 k
  obtain ⟨ih0, ih1, ih2⟩ := spigotlaw38_WindowFixed.mono_l k
  unfold spigotlaw38_WindowFixed.f
  repeat' first
      | (with_reducible exact ih0 _ _ _ _ _)
      | (with_reducible exact ih1 _ _ _ _ _ _ _ _ _)
      | (with_reducible exact ih2 _ _ _ _ _ _ _ _)
      | (with_reducible exact spigotlaw38_alive.mono _)
      | (with_reducible exact spigotref38_Charges.mono _ _)
      | (with_reducible exact spigotref38_Same.mono _ _ _)
      | (with_reducible exact window_Counts.mono _ _ _ _)
      | (with_reducible exact window_Fixed.mono _ _ _ _)
      | (with_reducible exact window_Most.mono _ _ _ _)
      | (with_reducible exact LeO.refl _)
      | (with_reducible exact LeO.none _)
      | (with_reducible refine LeO.ite ?_ ?_)
      | (with_reducible refine LeO.bind ?_ (fun _ => ?_))
      | exact ih0 _ _ _ _ _
      | exact ih1 _ _ _ _ _ _ _ _ _
      | exact ih2 _ _ _ _ _ _ _ _
      | exact spigotlaw38_alive.mono _
      | exact spigotref38_Charges.mono _ _
      | exact spigotref38_Same.mono _ _ _
      | exact window_Counts.mono _ _ _ _
      | exact window_Fixed.mono _ _ _ _
      | exact window_Most.mono _ _ _ _
      | exact LeO.none _
      | refine LeO.ite ?_ ?_
      | refine LeO.bind ?_ (fun _ => ?_)
set_option maxHeartbeats 8000000 in
set_option maxRecDepth 100000 in
theorem spigotlaw38_WindowFixed.calls (k : Nat) (a0_0 : Int) (a0_1 : Int) (A1 : Option Addr) (c1 : Nat) (l1 : List (S58)) (r : Bool) (w : World) (hr1 : Kd.C k58 w A1 l1.length l1) (hc1 : l1.length ≤ c1) (h : spigotlaw38_WindowFixed.f k a0_0 a0_1 l1 = some r) :
  Calls Try.prog 6 #[.agg #[.int .i64 a0_0, .int .i64 a0_1], .slice A1 l1.length c1] w fun e w' => e = .returned (.bool r) ∧ Below w.heap.size w w' := by
 have hu23 := Try.underlying23
 have HR1 := Aside0.mk hr1
 have HC1 := Aside0.mk hc1
 clear hr1 hc1
 have HB := Aside0.mk (Below.refl w.heap.size w)
 have H : ((spigotlaw38_alive.f k).bind fun t318 => ((spigotref38_Great.f l1).bind fun t319 => (if t319 = true then (spigotlaw38_WindowFixed.j0 k l1 t318 true a0_0 a0_1) else ((spigotref38_Check.f a0_0 a0_1).bind fun t320 => (if t320 = 0 then ((spigotref38_Charges.f k l1).bind fun t321 => (if t321 = 0 then (spigotlaw38_WindowFixed.j0 k l1 t318 (!t318) a0_0 a0_1) else (spigotlaw38_WindowFixed.j0 k l1 t318 true a0_0 a0_1))) else (spigotlaw38_WindowFixed.j0 k l1 t318 true a0_0 a0_1)))))) = some r := h
 clear h
 obtain ⟨t318, A3, H⟩ := bo_ H
 try dsimp only at H
 have HC4 := Aside0.mk H
 clear H
 go_enter Try.func6, Try.ntmps6
 go_upto_region 2 with (first | ((with_reducible refine gate_dst (N := 2) rfl ?_); (try refine ug_ (by rfl) ?_); refine bx_ #[.int .i64 a0_0, .int .i64 a0_1] 23 ?_; intro gb317 hg w5 BK317 hb; have GW317 := bz_ w hg; have GE317 := GW317; replace HB := bs_ w hb; clear hb hg) | (go_at_call 26; (with_reducible refine (spigotlaw38_alive.calls k  t318 _ A3.out).mono ?_); rintro e w6 ⟨rfl, hb⟩; replace BK317 := bb_ BK317 hb; replace HB := bs_ w hb; clear hb))
 repeat (go_quiet (first | ((with_reducible refine gate_dst (N := 2) rfl ?_); (try refine ug_ (by rfl) ?_); refine bx_ #[.int .i64 a0_0, .int .i64 a0_1] 23 ?_; intro gb317 hg w5 BK317 hb; have GW317 := bz_ w hg; have GE317 := GW317; replace HB := bs_ w hb; clear hb hg) | (go_at_call 26; (with_reducible refine (spigotlaw38_alive.calls k  t318 _ A3.out).mono ?_); rintro e w6 ⟨rfl, hb⟩; replace BK317 := bb_ BK317 hb; replace HB := bs_ w hb; clear hb)); go_upto_region 2 with (first | ((with_reducible refine gate_dst (N := 2) rfl ?_); (try refine ug_ (by rfl) ?_); refine bx_ #[.int .i64 a0_0, .int .i64 a0_1] 23 ?_; intro gb317 hg w5 BK317 hb; have GW317 := bz_ w hg; have GE317 := GW317; replace HB := bs_ w hb; clear hb hg) | (go_at_call 26; (with_reducible refine (spigotlaw38_alive.calls k  t318 _ A3.out).mono ?_); rintro e w6 ⟨rfl, hb⟩; replace BK317 := bb_ BK317 hb; replace HB := bs_ w hb; clear hb)))
 (try simp only [Act.put, List.setIfInBounds_toArray, List.set_cons_zero, List.set_cons_succ])
 go_cut [35] (fun v35 wc => ∃ (kq : Nat) (x35_3 : Bool), v35 = .bool x35_3 ∧ Aside0 (spigotlaw38_WindowFixed.j0 kq l1 t318 x35_3 a0_0 a0_1 = some r) ∧ Aside0 (kq ≤ k) ∧ Aside0 (wc.heap[gb317]? = some (.cells #[.int .i64 a0_0, .int .i64 a0_1] 23 (0, 0))) ∧ Aside0 (Below w.heap.size w wc))
 case first =>
  have H := HC4.out
  clear HC4
  obtain ⟨t319, A7, H⟩ := bo_ H
  try dsimp only at H
  by_cases c8 : t319 = true
  ·subst c8
   rw [if_pos rfl] at H
   try dsimp only at H
   have H' := Aside0.mk H
   clear H
   go_wp2_with (first | (go_at_call 9; (with_reducible refine (spigotref38_Great.calls _ _ l1 true _ ?side1 ?side2 A7.out).mono ?_); (case side1 => exact cs_ HR1 HB); (case side2 => exact HC1.out); rintro e w' ⟨rfl, ⟨nd, rfl⟩⟩; (try first | exact ⟨rfl, _, World.drewN_drewN _ _ _⟩ | exact ⟨rfl, _, Eq.trans (World.drewN_drewN _ _ _) (congrArg (World.drewN _) (Nat.add_assoc _ _ _))⟩)))
   repeat (go_quiet (first | (go_at_call 9; (with_reducible refine (spigotref38_Great.calls _ _ l1 true _ ?side1 ?side2 A7.out).mono ?_); (case side1 => exact cs_ HR1 HB); (case side2 => exact HC1.out); rintro e w' ⟨rfl, ⟨nd, rfl⟩⟩; (try first | exact ⟨rfl, _, World.drewN_drewN _ _ _⟩ | exact ⟨rfl, _, Eq.trans (World.drewN_drewN _ _ _) (congrArg (World.drewN _) (Nat.add_assoc _ _ _))⟩))); try go_wp2_with (first | (go_at_call 9; (with_reducible refine (spigotref38_Great.calls _ _ l1 true _ ?side1 ?side2 A7.out).mono ?_); (case side1 => exact cs_ HR1 HB); (case side2 => exact HC1.out); rintro e w' ⟨rfl, ⟨nd, rfl⟩⟩; (try first | exact ⟨rfl, _, World.drewN_drewN _ _ _⟩ | exact ⟨rfl, _, Eq.trans (World.drewN_drewN _ _ _) (congrArg (World.drewN _) (Nat.add_assoc _ _ _))⟩))))
   go_meet
   case rel => exact ⟨_, (true), rf_, H', al_, ⟨bq_ BK317⟩, bw_⟩
  ·replace c8 := Bool.eq_false_iff.mpr c8
   subst c8
   rw [if_neg (show ¬ (false = true) by decide)] at H
   try dsimp only at H
   obtain ⟨t320, A9, H⟩ := bo_ H
   try dsimp only at H
   by_cases c10 : t320 = 0
   ·rw [if_pos c10] at H
    have c10b0 : (t320 == 0) = true := beq_iff_eq.mpr c10
    have c10b1 : (t320 != 0) = false := bne_eq_false_iff_eq.mpr c10
    clear c10
    (first | rw [c10b0] | (simp only [i64_w, i32_w]; rw [c10b0]) | skip)
    obtain ⟨t321, A11, H⟩ := bo_ H
    replace H : (if t321 = 0 then (spigotlaw38_WindowFixed.j0 k l1 t318 (!t318) a0_0 a0_1) else (spigotlaw38_WindowFixed.j0 k l1 t318 true a0_0 a0_1)) = some r := H
    by_cases c12 : t321 = 0
    ·rw [if_pos c12] at H
     have c12b0 : (t321 == 0) = true := beq_iff_eq.mpr c12
     have c12b1 : (t321 != 0) = false := bne_eq_false_iff_eq.mpr c12
     clear c12
     have H' := Aside0.mk H
     clear H
     go_wp2_with (first | (go_at_call 9; (with_reducible refine (spigotref38_Great.calls _ _ l1 false _ ?side1 ?side2 A7.out).mono ?_); (case side1 => exact cs_ HR1 HB); (case side2 => exact HC1.out); rintro e w' ⟨rfl, ⟨nd, rfl⟩⟩; (try first | exact ⟨rfl, _, World.drewN_drewN _ _ _⟩ | exact ⟨rfl, _, Eq.trans (World.drewN_drewN _ _ _) (congrArg (World.drewN _) (Nat.add_assoc _ _ _))⟩); obtain ⟨hcz13_0, hcz13_1, hfz13_0, hfz13_1⟩ := ce2_ BK317) | (go_at_call 22; (with_reducible refine (spigotref38_Check.calls a0_0 a0_1 t320 _ A9.out).mono ?_); rintro e w14 ⟨rfl, hb⟩; replace BK317 := bb_ BK317 hb; replace HB := bs_ w hb; clear hb) | (go_at_call 24; (with_reducible refine (spigotref38_Charges.calls k _ _ l1 t321 _ ?side1 ?side2 A11.out).mono ?_); (case side1 => exact cs_ HR1 HB); (case side2 => exact HC1.out); rintro e w' ⟨rfl, ⟨nd, rfl⟩⟩; (try first | exact ⟨rfl, _, World.drewN_drewN _ _ _⟩ | exact ⟨rfl, _, Eq.trans (World.drewN_drewN _ _ _) (congrArg (World.drewN _) (Nat.add_assoc _ _ _))⟩)))
     repeat (go_quiet (first | (go_at_call 9; (with_reducible refine (spigotref38_Great.calls _ _ l1 false _ ?side1 ?side2 A7.out).mono ?_); (case side1 => exact cs_ HR1 HB); (case side2 => exact HC1.out); rintro e w' ⟨rfl, ⟨nd, rfl⟩⟩; (try first | exact ⟨rfl, _, World.drewN_drewN _ _ _⟩ | exact ⟨rfl, _, Eq.trans (World.drewN_drewN _ _ _) (congrArg (World.drewN _) (Nat.add_assoc _ _ _))⟩); obtain ⟨hcz13_0, hcz13_1, hfz13_0, hfz13_1⟩ := ce2_ BK317) | (go_at_call 22; (with_reducible refine (spigotref38_Check.calls a0_0 a0_1 t320 _ A9.out).mono ?_); rintro e w14 ⟨rfl, hb⟩; replace BK317 := bb_ BK317 hb; replace HB := bs_ w hb; clear hb) | (go_at_call 24; (with_reducible refine (spigotref38_Charges.calls k _ _ l1 t321 _ ?side1 ?side2 A11.out).mono ?_); (case side1 => exact cs_ HR1 HB); (case side2 => exact HC1.out); rintro e w' ⟨rfl, ⟨nd, rfl⟩⟩; (try first | exact ⟨rfl, _, World.drewN_drewN _ _ _⟩ | exact ⟨rfl, _, Eq.trans (World.drewN_drewN _ _ _) (congrArg (World.drewN _) (Nat.add_assoc _ _ _))⟩))); try go_wp2_with (first | (go_at_call 9; (with_reducible refine (spigotref38_Great.calls _ _ l1 false _ ?side1 ?side2 A7.out).mono ?_); (case side1 => exact cs_ HR1 HB); (case side2 => exact HC1.out); rintro e w' ⟨rfl, ⟨nd, rfl⟩⟩; (try first | exact ⟨rfl, _, World.drewN_drewN _ _ _⟩ | exact ⟨rfl, _, Eq.trans (World.drewN_drewN _ _ _) (congrArg (World.drewN _) (Nat.add_assoc _ _ _))⟩); obtain ⟨hcz13_0, hcz13_1, hfz13_0, hfz13_1⟩ := ce2_ BK317) | (go_at_call 22; (with_reducible refine (spigotref38_Check.calls a0_0 a0_1 t320 _ A9.out).mono ?_); rintro e w14 ⟨rfl, hb⟩; replace BK317 := bb_ BK317 hb; replace HB := bs_ w hb; clear hb) | (go_at_call 24; (with_reducible refine (spigotref38_Charges.calls k _ _ l1 t321 _ ?side1 ?side2 A11.out).mono ?_); (case side1 => exact cs_ HR1 HB); (case side2 => exact HC1.out); rintro e w' ⟨rfl, ⟨nd, rfl⟩⟩; (try first | exact ⟨rfl, _, World.drewN_drewN _ _ _⟩ | exact ⟨rfl, _, Eq.trans (World.drewN_drewN _ _ _) (congrArg (World.drewN _) (Nat.add_assoc _ _ _))⟩))))
     go_meet
     case rel => exact ⟨_, (!t318), rf_, H', al_, ⟨bq_ BK317⟩, bw_⟩
    ·rw [if_neg c12] at H
     have c12b0 : (t321 == 0) = false := beq_eq_false_iff_ne.mpr c12
     have c12b1 : (t321 != 0) = true := bne_iff_ne.mpr c12
     have H' := Aside0.mk H
     clear H
     go_wp2_with (first | (go_at_call 9; (with_reducible refine (spigotref38_Great.calls _ _ l1 false _ ?side1 ?side2 A7.out).mono ?_); (case side1 => exact cs_ HR1 HB); (case side2 => exact HC1.out); rintro e w' ⟨rfl, ⟨nd, rfl⟩⟩; (try first | exact ⟨rfl, _, World.drewN_drewN _ _ _⟩ | exact ⟨rfl, _, Eq.trans (World.drewN_drewN _ _ _) (congrArg (World.drewN _) (Nat.add_assoc _ _ _))⟩); obtain ⟨hcz15_0, hcz15_1, hfz15_0, hfz15_1⟩ := ce2_ BK317) | (go_at_call 22; (with_reducible refine (spigotref38_Check.calls a0_0 a0_1 t320 _ A9.out).mono ?_); rintro e w16 ⟨rfl, hb⟩; replace BK317 := bb_ BK317 hb; replace HB := bs_ w hb; clear hb) | (go_at_call 24; (with_reducible refine (spigotref38_Charges.calls k _ _ l1 t321 _ ?side1 ?side2 A11.out).mono ?_); (case side1 => exact cs_ HR1 HB); (case side2 => exact HC1.out); rintro e w' ⟨rfl, ⟨nd, rfl⟩⟩; (try first | exact ⟨rfl, _, World.drewN_drewN _ _ _⟩ | exact ⟨rfl, _, Eq.trans (World.drewN_drewN _ _ _) (congrArg (World.drewN _) (Nat.add_assoc _ _ _))⟩)))
     repeat (go_quiet (first | (go_at_call 9; (with_reducible refine (spigotref38_Great.calls _ _ l1 false _ ?side1 ?side2 A7.out).mono ?_); (case side1 => exact cs_ HR1 HB); (case side2 => exact HC1.out); rintro e w' ⟨rfl, ⟨nd, rfl⟩⟩; (try first | exact ⟨rfl, _, World.drewN_drewN _ _ _⟩ | exact ⟨rfl, _, Eq.trans (World.drewN_drewN _ _ _) (congrArg (World.drewN _) (Nat.add_assoc _ _ _))⟩); obtain ⟨hcz15_0, hcz15_1, hfz15_0, hfz15_1⟩ := ce2_ BK317) | (go_at_call 22; (with_reducible refine (spigotref38_Check.calls a0_0 a0_1 t320 _ A9.out).mono ?_); rintro e w16 ⟨rfl, hb⟩; replace BK317 := bb_ BK317 hb; replace HB := bs_ w hb; clear hb) | (go_at_call 24; (with_reducible refine (spigotref38_Charges.calls k _ _ l1 t321 _ ?side1 ?side2 A11.out).mono ?_); (case side1 => exact cs_ HR1 HB); (case side2 => exact HC1.out); rintro e w' ⟨rfl, ⟨nd, rfl⟩⟩; (try first | exact ⟨rfl, _, World.drewN_drewN _ _ _⟩ | exact ⟨rfl, _, Eq.trans (World.drewN_drewN _ _ _) (congrArg (World.drewN _) (Nat.add_assoc _ _ _))⟩))); try go_wp2_with (first | (go_at_call 9; (with_reducible refine (spigotref38_Great.calls _ _ l1 false _ ?side1 ?side2 A7.out).mono ?_); (case side1 => exact cs_ HR1 HB); (case side2 => exact HC1.out); rintro e w' ⟨rfl, ⟨nd, rfl⟩⟩; (try first | exact ⟨rfl, _, World.drewN_drewN _ _ _⟩ | exact ⟨rfl, _, Eq.trans (World.drewN_drewN _ _ _) (congrArg (World.drewN _) (Nat.add_assoc _ _ _))⟩); obtain ⟨hcz15_0, hcz15_1, hfz15_0, hfz15_1⟩ := ce2_ BK317) | (go_at_call 22; (with_reducible refine (spigotref38_Check.calls a0_0 a0_1 t320 _ A9.out).mono ?_); rintro e w16 ⟨rfl, hb⟩; replace BK317 := bb_ BK317 hb; replace HB := bs_ w hb; clear hb) | (go_at_call 24; (with_reducible refine (spigotref38_Charges.calls k _ _ l1 t321 _ ?side1 ?side2 A11.out).mono ?_); (case side1 => exact cs_ HR1 HB); (case side2 => exact HC1.out); rintro e w' ⟨rfl, ⟨nd, rfl⟩⟩; (try first | exact ⟨rfl, _, World.drewN_drewN _ _ _⟩ | exact ⟨rfl, _, Eq.trans (World.drewN_drewN _ _ _) (congrArg (World.drewN _) (Nat.add_assoc _ _ _))⟩))))
     go_meet
     case rel => exact ⟨_, (true), rf_, H', al_, ⟨bq_ BK317⟩, bw_⟩
   ·rw [if_neg c10] at H
    have c10b0 : (t320 == 0) = false := beq_eq_false_iff_ne.mpr c10
    have c10b1 : (t320 != 0) = true := bne_iff_ne.mpr c10
    (first | rw [c10b0] | (simp only [i64_w, i32_w]; rw [c10b0]) | skip)
    have H' := Aside0.mk H
    clear H
    go_wp2_with (first | (go_at_call 9; (with_reducible refine (spigotref38_Great.calls _ _ l1 false _ ?side1 ?side2 A7.out).mono ?_); (case side1 => exact cs_ HR1 HB); (case side2 => exact HC1.out); rintro e w' ⟨rfl, ⟨nd, rfl⟩⟩; (try first | exact ⟨rfl, _, World.drewN_drewN _ _ _⟩ | exact ⟨rfl, _, Eq.trans (World.drewN_drewN _ _ _) (congrArg (World.drewN _) (Nat.add_assoc _ _ _))⟩); obtain ⟨hcz17_0, hcz17_1, hfz17_0, hfz17_1⟩ := ce2_ BK317) | (go_at_call 22; (with_reducible refine (spigotref38_Check.calls a0_0 a0_1 t320 _ A9.out).mono ?_); rintro e w18 ⟨rfl, hb⟩; replace BK317 := bb_ BK317 hb; replace HB := bs_ w hb; clear hb))
    repeat (go_quiet (first | (go_at_call 9; (with_reducible refine (spigotref38_Great.calls _ _ l1 false _ ?side1 ?side2 A7.out).mono ?_); (case side1 => exact cs_ HR1 HB); (case side2 => exact HC1.out); rintro e w' ⟨rfl, ⟨nd, rfl⟩⟩; (try first | exact ⟨rfl, _, World.drewN_drewN _ _ _⟩ | exact ⟨rfl, _, Eq.trans (World.drewN_drewN _ _ _) (congrArg (World.drewN _) (Nat.add_assoc _ _ _))⟩); obtain ⟨hcz17_0, hcz17_1, hfz17_0, hfz17_1⟩ := ce2_ BK317) | (go_at_call 22; (with_reducible refine (spigotref38_Check.calls a0_0 a0_1 t320 _ A9.out).mono ?_); rintro e w18 ⟨rfl, hb⟩; replace BK317 := bb_ BK317 hb; replace HB := bs_ w hb; clear hb)); try go_wp2_with (first | (go_at_call 9; (with_reducible refine (spigotref38_Great.calls _ _ l1 false _ ?side1 ?side2 A7.out).mono ?_); (case side1 => exact cs_ HR1 HB); (case side2 => exact HC1.out); rintro e w' ⟨rfl, ⟨nd, rfl⟩⟩; (try first | exact ⟨rfl, _, World.drewN_drewN _ _ _⟩ | exact ⟨rfl, _, Eq.trans (World.drewN_drewN _ _ _) (congrArg (World.drewN _) (Nat.add_assoc _ _ _))⟩); obtain ⟨hcz17_0, hcz17_1, hfz17_0, hfz17_1⟩ := ce2_ BK317) | (go_at_call 22; (with_reducible refine (spigotref38_Check.calls a0_0 a0_1 t320 _ A9.out).mono ?_); rintro e w18 ⟨rfl, hb⟩; replace BK317 := bb_ BK317 hb; replace HB := bs_ w hb; clear hb)))
    go_meet
    case rel => exact ⟨_, (true), rf_, H', al_, ⟨bq_ BK317⟩, bw_⟩
 case rest =>
  clear HC4
  try clear c1
  obtain ⟨kq, x35_3, rfl, HA, HJ3, BK317, HB⟩ := hcut
  cases kq with
  | zero => exact absurd HA.out (by simp [spigotlaw38_WindowFixed.j0])
  | succ kj3 =>
   have H := HA.out
   clear HA
   simp only [spigotlaw38_WindowFixed.j0] at H
   by_cases c19 : x35_3 = true
   ·subst c19
    replace H : (some t318) = some r := by rw [if_pos rfl] at H; exact H
    obtain rfl := Option.some.inj H
    go_wp2
    repeat (go_quiet (fail); try go_wp2)
    go_ret
    exact fi_
   ·replace c19 := Bool.eq_false_iff.mpr c19
    subst c19
    rw [if_neg (show ¬ (false = true) by decide)] at H
    try dsimp only at H
    obtain ⟨⟨t322, t325⟩, A20, H⟩ := bo_ H
    try dsimp only at H
    by_cases c21 : t325 = 0
    rotate_left
    ·rw [if_neg c21] at H; exact absurd H (by simp)
    rw [if_pos c21] at H
    have c21b0 : (t325 == 0) = true := beq_iff_eq.mpr c21
    have c21b1 : (t325 != 0) = false := bne_eq_false_iff_eq.mpr c21
    clear c21
    obtain ⟨t326, A22, H⟩ := bo_ H
    try dsimp only at H
    by_cases c23 : t326 = 0
    rotate_left
    ·rw [if_neg c23] at H; exact absurd H (by simp)
    rw [if_pos c23] at H
    have c23b0 : (t326 == 0) = true := beq_iff_eq.mpr c23
    have c23b1 : (t326 != 0) = false := bne_eq_false_iff_eq.mpr c23
    clear c23
    by_cases c24 : (t322.length : Int) > (l1.length : Int)
    ·rw [if_pos c24] at H; exact absurd H (by simp)
    rw [if_neg c24] at H
    have c24b0 : decide ((l1.length : Int) < (t322.length : Int)) = false := decide_eq_false c24
    have c24b1 : decide (l1.length < t322.length) = false := decide_eq_false (fun h => c24 (Int.ofNat_lt.mpr h))
    clear c24
    obtain ⟨⟨t327, t328⟩, A25, H⟩ := bo_ H
    try dsimp only at H
    obtain ⟨⟨t329, t332⟩, A26, H⟩ := bo_ H
    try dsimp only at H
    obtain ⟨⟨t333, t336⟩, A27, H⟩ := bo_ H
    try dsimp only at H
    obtain ⟨⟨t337, t340⟩, A28, H⟩ := bo_ H
    try dsimp only at H
    by_cases c29 : t328 = 0
    rotate_left
    ·rw [if_neg c29] at H; exact absurd H (by simp)
    rw [if_pos c29] at H
    have c29b0 : (t328 == 0) = true := beq_iff_eq.mpr c29
    have c29b1 : (t328 != 0) = false := bne_eq_false_iff_eq.mpr c29
    clear c29
    by_cases c30 : t327 > (wrap64 (2 * a0_0))
    ·rw [if_pos c30] at H; exact absurd H (by simp)
    rw [if_neg c30] at H
    have c30b0 : decide ((wrap64 (2 * a0_0)) < t327) = false := decide_eq_false c30
    clear c30
    by_cases c31 : t332 = 0
    rotate_left
    ·rw [if_neg c31] at H; exact absurd H (by simp)
    rw [if_pos c31] at H
    have c31b0 : (t332 == 0) = true := beq_iff_eq.mpr c31
    have c31b1 : (t332 != 0) = false := bne_eq_false_iff_eq.mpr c31
    clear c31
    by_cases c32 : t336 = 0
    rotate_left
    ·rw [if_neg c32] at H; exact absurd H (by simp)
    rw [if_pos c32] at H
    have c32b0 : (t336 == 0) = true := beq_iff_eq.mpr c32
    have c32b1 : (t336 != 0) = false := bne_eq_false_iff_eq.mpr c32
    clear c32
    by_cases c33 : t340 = 0
    rotate_left
    ·rw [if_neg c33] at H; exact absurd H (by simp)
    rw [if_pos c33] at H
    have c33b0 : (t340 == 0) = true := beq_iff_eq.mpr c33
    have c33b1 : (t340 != 0) = false := bne_eq_false_iff_eq.mpr c33
    clear c33
    obtain ⟨t341, A34, H⟩ := bo_ H
    replace H : (if t341 = true then (spigotlaw38_WindowFixed.l0 kj3 l1 t318 t322 t329 t333 true 0 a0_0 a0_1) else (none)) = some r := H
    by_cases c35 : t341 = true
    ·subst c35
     rw [if_pos rfl] at H
     try dsimp only at H
     have H' := Aside0.mk H
     clear H
     replace hc317 := ce2_ BK317
     go_wp2_with (first | (go_at_call 15; (with_reducible refine (window_Fixed.calls kj3 a0_0 a0_1 _ _ l1 t322 t325 _ ?side1 ?side2 A20.out).mono ?_); (case side1 => exact cs_ HR1 HB); (case side2 => exact HC1.out); rintro e w37 ⟨v323, rfl, ho0, hb⟩; have HO324 := Aside0.mk (Kd.R_lower ho0 (below_size bh_)); replace BK317 := bb_ BK317 hb; replace HB := bs_ w hb; (try clear hb); (try clear hb2); (try clear hk); (try clear hi); (try clear ho0); obtain ⟨Ao38, co38, eo38⟩ := Kd.R_slice HO324.out; subst eo38) | (go_at_call 24; (with_reducible refine (spigotref38_Charges.calls kj3 _ _ t322 t326 _ ?side1 ?side2 A22.out).mono ?_); (case side1 => exact cr_ HO324); (case side2 => exact (Kd.R_reads' HO324.out).2.1); rintro e w' ⟨rfl, ⟨nd, rfl⟩⟩; (try first | exact ⟨rfl, _, World.drewN_drewN _ _ _⟩ | exact ⟨rfl, _, Eq.trans (World.drewN_drewN _ _ _) (congrArg (World.drewN _) (Nat.add_assoc _ _ _))⟩); obtain ⟨hcz39_0, hcz39_1, hfz39_0, hfz39_1⟩ := ce2_ BK317) | (go_at_call 12; (with_reducible refine (window_Most.calls kj3 a0_0 a0_1 _ _ t322 t327 t328 _ ?side1 ?side2 A25.out).mono ?_); (case side1 => exact cr_ HO324); (case side2 => exact (Kd.R_reads' HO324.out).2.1); rintro e w40 ⟨rfl, hb⟩; replace HO324 := rb_ HO324 hb; replace BK317 := bb_ BK317 hb; replace HB := bs_ w hb; clear hb; obtain ⟨hcz41_0, hcz41_1, hfz41_0, hfz41_1⟩ := ce2_ BK317) | (go_at_call 10; (with_reducible refine (window_Counts.calls kj3 a0_0 a0_1 _ _ t322 t329 t332 _ ?side1 ?side2 A26.out).mono ?_); (case side1 => exact cr_ HO324); (case side2 => exact (Kd.R_reads' HO324.out).2.1); rintro e w42 ⟨v330, rfl, ho0, hb⟩; have HO331 := Aside0.mk (Kd.R_lower ho0 (below_size bh_)); replace HO324 := rb_ HO324 hb; replace BK317 := bb_ BK317 hb; replace HB := bs_ w hb; (try clear hb); (try clear hb2); (try clear hk); (try clear hi); (try clear ho0); obtain ⟨hcz43_0, hcz43_1, hfz43_0, hfz43_1⟩ := ce2_ BK317) | (go_at_call 10; (with_reducible refine (window_Counts.calls kj3 a0_0 a0_1 _ _ l1 t333 t336 _ ?side1 ?side2 A27.out).mono ?_); (case side1 => exact cs_ HR1 HB); (case side2 => exact HC1.out); rintro e w44 ⟨v334, rfl, ho0, hb⟩; have HO335 := Aside0.mk (Kd.R_lower (Kd.R_new' ho0 (Kd.R_lt (rs_ HO331))) (below_size bh_)); replace HO324 := rb_ HO324 hb; replace HO331 := Aside0.mk (Kd.R_elder' (rs_ HO331) (Kd.R_base ho0) hb); replace BK317 := bb_ BK317 hb; replace HB := bs_ w hb; (try clear hb); (try clear hb2); (try clear hk); (try clear hi); (try clear ho0); obtain ⟨hcz45_0, hcz45_1, hfz45_0, hfz45_1⟩ := ce2_ BK317) | (go_at_call 15; (with_reducible refine (window_Fixed.calls kj3 a0_0 a0_1 _ _ t322 t337 t340 _ ?side1 ?side2 A28.out).mono ?_); (case side1 => exact cr_ HO324); (case side2 => exact (Kd.R_reads' HO324.out).2.1); rintro e w46 ⟨v338, rfl, ho0, hb⟩; have HO339 := Aside0.mk (Kd.R_lower (Kd.R_new' ho0 (Kd.R_lt (rs_ HO324))) (below_size bh_)); replace HO324 := Aside0.mk (Kd.R_elder' (rs_ HO324) (Kd.R_base ho0) hb); replace HO331 := rb_ HO331 hb; replace HO335 := rb_ HO335 hb; replace BK317 := bb_ BK317 hb; replace HB := bs_ w hb; (try clear hb); (try clear hb2); (try clear hk); (try clear hi); (try clear ho0); obtain ⟨hcz47_0, hcz47_1, hfz47_0, hfz47_1⟩ := ce2_ BK317; obtain ⟨Ao48, co48, eo48⟩ := Kd.R_slice HO339.out; subst eo48) | (go_at_call 25; (with_reducible refine (spigotref38_Same.calls kj3 _ _ t337 _ _ t322 true _ ?side1 ?side2 ?side3 ?side4 A34.out).mono ?_); (case side1 => exact cr_ HO339); (case side2 => exact (Kd.R_reads' HO339.out).2.1); (case side3 => exact cr_ HO324); (case side4 => exact (Kd.R_reads' HO324.out).2.1); rintro e w' ⟨rfl, ⟨nd, rfl⟩⟩; (try first | exact ⟨rfl, _, World.drewN_drewN _ _ _⟩ | exact ⟨rfl, _, Eq.trans (World.drewN_drewN _ _ _) (congrArg (World.drewN _) (Nat.add_assoc _ _ _))⟩)))
     repeat (go_quiet (first | (go_at_call 15; (with_reducible refine (window_Fixed.calls kj3 a0_0 a0_1 _ _ l1 t322 t325 _ ?side1 ?side2 A20.out).mono ?_); (case side1 => exact cs_ HR1 HB); (case side2 => exact HC1.out); rintro e w37 ⟨v323, rfl, ho0, hb⟩; have HO324 := Aside0.mk (Kd.R_lower ho0 (below_size bh_)); replace BK317 := bb_ BK317 hb; replace HB := bs_ w hb; (try clear hb); (try clear hb2); (try clear hk); (try clear hi); (try clear ho0); obtain ⟨Ao38, co38, eo38⟩ := Kd.R_slice HO324.out; subst eo38) | (go_at_call 24; (with_reducible refine (spigotref38_Charges.calls kj3 _ _ t322 t326 _ ?side1 ?side2 A22.out).mono ?_); (case side1 => exact cr_ HO324); (case side2 => exact (Kd.R_reads' HO324.out).2.1); rintro e w' ⟨rfl, ⟨nd, rfl⟩⟩; (try first | exact ⟨rfl, _, World.drewN_drewN _ _ _⟩ | exact ⟨rfl, _, Eq.trans (World.drewN_drewN _ _ _) (congrArg (World.drewN _) (Nat.add_assoc _ _ _))⟩); obtain ⟨hcz39_0, hcz39_1, hfz39_0, hfz39_1⟩ := ce2_ BK317) | (go_at_call 12; (with_reducible refine (window_Most.calls kj3 a0_0 a0_1 _ _ t322 t327 t328 _ ?side1 ?side2 A25.out).mono ?_); (case side1 => exact cr_ HO324); (case side2 => exact (Kd.R_reads' HO324.out).2.1); rintro e w40 ⟨rfl, hb⟩; replace HO324 := rb_ HO324 hb; replace BK317 := bb_ BK317 hb; replace HB := bs_ w hb; clear hb; obtain ⟨hcz41_0, hcz41_1, hfz41_0, hfz41_1⟩ := ce2_ BK317) | (go_at_call 10; (with_reducible refine (window_Counts.calls kj3 a0_0 a0_1 _ _ t322 t329 t332 _ ?side1 ?side2 A26.out).mono ?_); (case side1 => exact cr_ HO324); (case side2 => exact (Kd.R_reads' HO324.out).2.1); rintro e w42 ⟨v330, rfl, ho0, hb⟩; have HO331 := Aside0.mk (Kd.R_lower ho0 (below_size bh_)); replace HO324 := rb_ HO324 hb; replace BK317 := bb_ BK317 hb; replace HB := bs_ w hb; (try clear hb); (try clear hb2); (try clear hk); (try clear hi); (try clear ho0); obtain ⟨hcz43_0, hcz43_1, hfz43_0, hfz43_1⟩ := ce2_ BK317) | (go_at_call 10; (with_reducible refine (window_Counts.calls kj3 a0_0 a0_1 _ _ l1 t333 t336 _ ?side1 ?side2 A27.out).mono ?_); (case side1 => exact cs_ HR1 HB); (case side2 => exact HC1.out); rintro e w44 ⟨v334, rfl, ho0, hb⟩; have HO335 := Aside0.mk (Kd.R_lower (Kd.R_new' ho0 (Kd.R_lt (rs_ HO331))) (below_size bh_)); replace HO324 := rb_ HO324 hb; replace HO331 := Aside0.mk (Kd.R_elder' (rs_ HO331) (Kd.R_base ho0) hb); replace BK317 := bb_ BK317 hb; replace HB := bs_ w hb; (try clear hb); (try clear hb2); (try clear hk); (try clear hi); (try clear ho0); obtain ⟨hcz45_0, hcz45_1, hfz45_0, hfz45_1⟩ := ce2_ BK317) | (go_at_call 15; (with_reducible refine (window_Fixed.calls kj3 a0_0 a0_1 _ _ t322 t337 t340 _ ?side1 ?side2 A28.out).mono ?_); (case side1 => exact cr_ HO324); (case side2 => exact (Kd.R_reads' HO324.out).2.1); rintro e w46 ⟨v338, rfl, ho0, hb⟩; have HO339 := Aside0.mk (Kd.R_lower (Kd.R_new' ho0 (Kd.R_lt (rs_ HO324))) (below_size bh_)); replace HO324 := Aside0.mk (Kd.R_elder' (rs_ HO324) (Kd.R_base ho0) hb); replace HO331 := rb_ HO331 hb; replace HO335 := rb_ HO335 hb; replace BK317 := bb_ BK317 hb; replace HB := bs_ w hb; (try clear hb); (try clear hb2); (try clear hk); (try clear hi); (try clear ho0); obtain ⟨hcz47_0, hcz47_1, hfz47_0, hfz47_1⟩ := ce2_ BK317; obtain ⟨Ao48, co48, eo48⟩ := Kd.R_slice HO339.out; subst eo48) | (go_at_call 25; (with_reducible refine (spigotref38_Same.calls kj3 _ _ t337 _ _ t322 true _ ?side1 ?side2 ?side3 ?side4 A34.out).mono ?_); (case side1 => exact cr_ HO339); (case side2 => exact (Kd.R_reads' HO339.out).2.1); (case side3 => exact cr_ HO324); (case side4 => exact (Kd.R_reads' HO324.out).2.1); rintro e w' ⟨rfl, ⟨nd, rfl⟩⟩; (try first | exact ⟨rfl, _, World.drewN_drewN _ _ _⟩ | exact ⟨rfl, _, Eq.trans (World.drewN_drewN _ _ _) (congrArg (World.drewN _) (Nat.add_assoc _ _ _))⟩))); try go_wp2_with (first | (go_at_call 15; (with_reducible refine (window_Fixed.calls kj3 a0_0 a0_1 _ _ l1 t322 t325 _ ?side1 ?side2 A20.out).mono ?_); (case side1 => exact cs_ HR1 HB); (case side2 => exact HC1.out); rintro e w37 ⟨v323, rfl, ho0, hb⟩; have HO324 := Aside0.mk (Kd.R_lower ho0 (below_size bh_)); replace BK317 := bb_ BK317 hb; replace HB := bs_ w hb; (try clear hb); (try clear hb2); (try clear hk); (try clear hi); (try clear ho0); obtain ⟨Ao38, co38, eo38⟩ := Kd.R_slice HO324.out; subst eo38) | (go_at_call 24; (with_reducible refine (spigotref38_Charges.calls kj3 _ _ t322 t326 _ ?side1 ?side2 A22.out).mono ?_); (case side1 => exact cr_ HO324); (case side2 => exact (Kd.R_reads' HO324.out).2.1); rintro e w' ⟨rfl, ⟨nd, rfl⟩⟩; (try first | exact ⟨rfl, _, World.drewN_drewN _ _ _⟩ | exact ⟨rfl, _, Eq.trans (World.drewN_drewN _ _ _) (congrArg (World.drewN _) (Nat.add_assoc _ _ _))⟩); obtain ⟨hcz39_0, hcz39_1, hfz39_0, hfz39_1⟩ := ce2_ BK317) | (go_at_call 12; (with_reducible refine (window_Most.calls kj3 a0_0 a0_1 _ _ t322 t327 t328 _ ?side1 ?side2 A25.out).mono ?_); (case side1 => exact cr_ HO324); (case side2 => exact (Kd.R_reads' HO324.out).2.1); rintro e w40 ⟨rfl, hb⟩; replace HO324 := rb_ HO324 hb; replace BK317 := bb_ BK317 hb; replace HB := bs_ w hb; clear hb; obtain ⟨hcz41_0, hcz41_1, hfz41_0, hfz41_1⟩ := ce2_ BK317) | (go_at_call 10; (with_reducible refine (window_Counts.calls kj3 a0_0 a0_1 _ _ t322 t329 t332 _ ?side1 ?side2 A26.out).mono ?_); (case side1 => exact cr_ HO324); (case side2 => exact (Kd.R_reads' HO324.out).2.1); rintro e w42 ⟨v330, rfl, ho0, hb⟩; have HO331 := Aside0.mk (Kd.R_lower ho0 (below_size bh_)); replace HO324 := rb_ HO324 hb; replace BK317 := bb_ BK317 hb; replace HB := bs_ w hb; (try clear hb); (try clear hb2); (try clear hk); (try clear hi); (try clear ho0); obtain ⟨hcz43_0, hcz43_1, hfz43_0, hfz43_1⟩ := ce2_ BK317) | (go_at_call 10; (with_reducible refine (window_Counts.calls kj3 a0_0 a0_1 _ _ l1 t333 t336 _ ?side1 ?side2 A27.out).mono ?_); (case side1 => exact cs_ HR1 HB); (case side2 => exact HC1.out); rintro e w44 ⟨v334, rfl, ho0, hb⟩; have HO335 := Aside0.mk (Kd.R_lower (Kd.R_new' ho0 (Kd.R_lt (rs_ HO331))) (below_size bh_)); replace HO324 := rb_ HO324 hb; replace HO331 := Aside0.mk (Kd.R_elder' (rs_ HO331) (Kd.R_base ho0) hb); replace BK317 := bb_ BK317 hb; replace HB := bs_ w hb; (try clear hb); (try clear hb2); (try clear hk); (try clear hi); (try clear ho0); obtain ⟨hcz45_0, hcz45_1, hfz45_0, hfz45_1⟩ := ce2_ BK317) | (go_at_call 15; (with_reducible refine (window_Fixed.calls kj3 a0_0 a0_1 _ _ t322 t337 t340 _ ?side1 ?side2 A28.out).mono ?_); (case side1 => exact cr_ HO324); (case side2 => exact (Kd.R_reads' HO324.out).2.1); rintro e w46 ⟨v338, rfl, ho0, hb⟩; have HO339 := Aside0.mk (Kd.R_lower (Kd.R_new' ho0 (Kd.R_lt (rs_ HO324))) (below_size bh_)); replace HO324 := Aside0.mk (Kd.R_elder' (rs_ HO324) (Kd.R_base ho0) hb); replace HO331 := rb_ HO331 hb; replace HO335 := rb_ HO335 hb; replace BK317 := bb_ BK317 hb; replace HB := bs_ w hb; (try clear hb); (try clear hb2); (try clear hk); (try clear hi); (try clear ho0); obtain ⟨hcz47_0, hcz47_1, hfz47_0, hfz47_1⟩ := ce2_ BK317; obtain ⟨Ao48, co48, eo48⟩ := Kd.R_slice HO339.out; subst eo48) | (go_at_call 25; (with_reducible refine (spigotref38_Same.calls kj3 _ _ t337 _ _ t322 true _ ?side1 ?side2 ?side3 ?side4 A34.out).mono ?_); (case side1 => exact cr_ HO339); (case side2 => exact (Kd.R_reads' HO339.out).2.1); (case side3 => exact cr_ HO324); (case side4 => exact (Kd.R_reads' HO324.out).2.1); rintro e w' ⟨rfl, ⟨nd, rfl⟩⟩; (try first | exact ⟨rfl, _, World.drewN_drewN _ _ _⟩ | exact ⟨rfl, _, Eq.trans (World.drewN_drewN _ _ _) (congrArg (World.drewN _) (Nat.add_assoc _ _ _))⟩))))
     go_loopg [17] kj3 (fun kq v17 w' => ∃ (x17_2 : Int), v17 = .int .i64 x17_2 ∧ Aside0 (spigotlaw38_WindowFixed.l0 kq l1 t318 t322 t329 t333 true x17_2 a0_0 a0_1 = some r) ∧ Aside0 (kq ≤ kj3) ∧ Aside0 (Kd.R k58 58 w' w.heap.size (fun _ => True) (.slice Ao38 t322.length co38) t322) ∧ Aside0 (Kd.R k56 56 w' w.heap.size (fun k_ => some k_ ≠ (v334 : Value).ownBlock) v330 t329) ∧ Aside0 (Kd.R k56 56 w' w.heap.size (fun k_ => some k_ ≠ (v330 : Value).ownBlock) v334 t333) ∧ Aside0 (w'.heap[gb317]? = some (.cells #[.int .i64 a0_0, .int .i64 a0_1] 23 (0, 0))) ∧ Aside0 (Below w.heap.size w w'))
     case atStart => exact ⟨(0), rf_, H', ⟨Nat.le_refl _⟩, ⟨by (with_reducible repeat (first | apply Kd.R_alloc | apply Kd.R_drewN | apply Kd.R_drew)); exact Kd.R_mono HO324.out (fun _ hk => trivial)⟩, ⟨by (with_reducible repeat (first | apply Kd.R_alloc | apply Kd.R_drewN | apply Kd.R_drew)); exact Kd.R_mono HO331.out (fun _ hk => hk.2)⟩, ⟨by (with_reducible repeat (first | apply Kd.R_alloc | apply Kd.R_drewN | apply Kd.R_drew)); exact Kd.R_mono HO335.out (fun _ hk => hk.2)⟩, ⟨bq_ BK317⟩, bw_⟩
     case round =>
      clear H'
      try clear c1
      try clear c19
      try clear c21
      try clear c21b0
      try clear c21b1
      try clear c23
      try clear c23b0
      try clear c23b1
      try clear c24
      try clear c24b0
      try clear c24b1
      try clear c29
      try clear c29b0
      try clear c29b1
      try clear c30
      try clear c30b0
      try clear c31
      try clear c31b0
      try clear c31b1
      try clear c32
      try clear c32b0
      try clear c32b1
      try clear c33
      try clear c33b0
      try clear c33b1
      try clear c35
      try clear hcz39_0
      try clear hcz39_1
      try clear hcz41_0
      try clear hcz41_1
      try clear hcz43_0
      try clear hcz43_1
      try clear hcz45_0
      try clear hcz45_1
      try clear hcz47_0
      try clear hcz47_1
      try clear hfz39_0
      try clear hfz39_1
      try clear hfz41_0
      try clear hfz41_1
      try clear hfz43_0
      try clear hfz43_1
      try clear hfz45_0
      try clear hfz45_1
      try clear hfz47_0
      try clear hfz47_1
      obtain ⟨x17_2, rfl, HA, HK2, HO_6, HO_10, HO_12, BK317, HB⟩ := hrel
      cases gk with
      | zero => exact absurd HA.out (by simp [spigotlaw38_WindowFixed.l0])
      | succ k2 =>
       have H := HA.out
       clear HA
       simp only [spigotlaw38_WindowFixed.l0] at H
       by_cases c49 : x17_2 < (t329.length : Int)
       ·rw [if_pos c49] at H
        have c49b0 : decide (x17_2 < (t329.length : Int)) = true := decide_eq_true c49
        clear c49
        by_cases c50 : 0 ≤ x17_2
        rotate_left
        ·rw [if_neg c50] at H; exact absurd H (by simp)
        rw [if_pos c50] at H
        have c50b0 : decide (0 ≤ x17_2) = true := decide_eq_true c50
        clear c50
        by_cases c51 : ((rd_T56 t329 x17_2).f1) > a0_0
        ·rw [if_pos c51] at H; exact absurd H (by simp)
        rw [if_neg c51] at H
        have c51b0 : decide (a0_0 < ((rd_T56 t329 x17_2).f1)) = false := decide_eq_false c51
        clear c51
        by_cases c52 : (IntKind.u64.wrap (a0_1)) = 0
        ·rw [if_pos c52] at H; exact absurd H (by simp)
        rw [if_neg c52] at H
        have c52b0 : ((IntKind.u64.wrap (a0_1)) == 0) = false := beq_eq_false_iff_ne.mpr c52
        have c52b1 : ((IntKind.u64.wrap (a0_1)) != 0) = true := bne_iff_ne.mpr c52
        by_cases c53 : (Int.tmod ((rd_T56 t329 x17_2).f0) (IntKind.u64.wrap (a0_1))) = 0
        rotate_left
        ·rw [if_neg c53] at H; exact absurd H (by simp)
        rw [if_pos c53] at H
        have c53b0 : ((Int.tmod ((rd_T56 t329 x17_2).f0) (IntKind.u64.wrap (a0_1))) == 0) = true := beq_iff_eq.mpr c53
        have c53b1 : ((Int.tmod ((rd_T56 t329 x17_2).f0) (IntKind.u64.wrap (a0_1))) != 0) = false := bne_eq_false_iff_eq.mpr c53
        clear c53
        by_cases c54 : x17_2 > 0
        ·rw [if_pos c54] at H
         have c54b0 : decide (0 < x17_2) = true := decide_eq_true c54
         clear c54
         obtain ⟨ji55, hji55⟩ : ∃ j_ : Int, (wrap64 (x17_2 - 1)) = j_ := ⟨_, rfl⟩
         replace H : (if 0 ≤ (ji55) then (if (ji55) < (t329.length : Int) then (if ((rd_T56 t329 x17_2).f0) ≤ ((rd_T56 t329 (ji55)).f0) then (none) else (spigotlaw38_WindowFixed.l0 k2 l1 t318 t322 t329 t333 true (wrap64 (x17_2 + 1)) a0_0 a0_1)) else (none)) else (none)) = some r := by first | (rw [hji55] at H; exact H) | (simp only [hji55] at H ⊢; exact H)
         have hji55w : (IntKind.i64.wrap (x17_2 - 1)) = ji55 := (i64_w _).trans hji55
         by_cases c56 : 0 ≤ (ji55)
         rotate_left
         ·rw [if_neg c56] at H; exact absurd H (by simp)
         rw [if_pos c56] at H
         have c56b0 : decide (0 ≤ (ji55)) = true := decide_eq_true c56
         clear c56
         by_cases c57 : (ji55) < (t329.length : Int)
         rotate_left
         ·rw [if_neg c57] at H; exact absurd H (by simp)
         rw [if_pos c57] at H
         have c57b0 : decide ((ji55) < (t329.length : Int)) = true := decide_eq_true c57
         clear c57
         by_cases c58 : ((rd_T56 t329 x17_2).f0) ≤ ((rd_T56 t329 (ji55)).f0)
         ·rw [if_pos c58] at H; exact absurd H (by simp)
         rw [if_neg c58] at H
         have c58b0 : decide (((rd_T56 t329 x17_2).f0) ≤ ((rd_T56 t329 (ji55)).f0)) = false := decide_eq_false c58
         clear c58
         have H' := Aside0.mk H
         clear H
         obtain ⟨Ao59, co59, eo59⟩ := Kd.R_slice HO_10.out
         subst eo59
         have p342 : 0 ≤ (x17_2 : Int) := of_decide_eq_true (by first | (with_reducible assumption) | assumption)
         have q342 : x17_2 < (t329.length : Int) := of_decide_eq_true (by first | (with_reducible assumption) | assumption)
         obtain ⟨ad342, e342, hx342_0, hx342_1⟩ := at_T56 (Kd.R_reads' HO_10.out).2.2 x17_2 p342 q342
         cases e342
         replace p342 := eq_true p342
         replace q342 := eq_true q342
         replace hc317 := ce2_ BK317
         have p343 : 0 ≤ (x17_2 : Int) := of_decide_eq_true (by first | (with_reducible assumption) | assumption)
         have q343 : x17_2 < (t329.length : Int) := of_decide_eq_true (by first | (with_reducible assumption) | assumption)
         obtain ⟨ad343, e343, hx343_0, hx343_1⟩ := at_T56 (Kd.R_reads' HO_10.out).2.2 x17_2 p343 q343
         obtain rfl : ad342 = ad343 := (by injection e343)
         replace p343 := eq_true p343
         replace q343 := eq_true q343
         have p344 : 0 ≤ (x17_2 : Int) := of_decide_eq_true (by first | (with_reducible assumption) | assumption)
         have q344 : x17_2 < (t329.length : Int) := of_decide_eq_true (by first | (with_reducible assumption) | assumption)
         obtain ⟨ad344, e344, hx344_0, hx344_1⟩ := at_T56 (Kd.R_reads' HO_10.out).2.2 x17_2 p344 q344
         obtain rfl : ad342 = ad344 := (by injection e344)
         replace p344 := eq_true p344
         replace q344 := eq_true q344
         have p345 : 0 ≤ ((ji55) : Int) := of_decide_eq_true (by first | (with_reducible assumption) | assumption)
         have q345 : (ji55) < (t329.length : Int) := of_decide_eq_true (by first | (with_reducible assumption) | assumption)
         obtain ⟨ad345, e345, hx345_0, hx345_1⟩ := at_T56 (Kd.R_reads' HO_10.out).2.2 (ji55) p345 q345
         obtain rfl : ad342 = ad345 := (by injection e345)
         replace p345 := eq_true p345
         replace q345 := eq_true q345
         go_wp2
         repeat (go_quiet (fail); try go_wp2)
         go_roundg k2
         case measure => have := HJ3.out; have := HK2.out; omega
         case rel => exact ⟨(wrap64 (x17_2 + 1)), rf_, H', ⟨by have := HJ3.out; have := HK2.out; omega⟩, ⟨rs_ HO_6⟩, ⟨rs_ HO_10⟩, ⟨rs_ HO_12⟩, ⟨bq_ BK317⟩, bw_⟩
        ·rw [if_neg c54] at H
         have c54b0 : decide (0 < x17_2) = false := decide_eq_false c54
         clear c54
         have H' := Aside0.mk H
         clear H
         obtain ⟨Ao61, co61, eo61⟩ := Kd.R_slice HO_10.out
         subst eo61
         have p342 : 0 ≤ (x17_2 : Int) := of_decide_eq_true (by first | (with_reducible assumption) | assumption)
         have q342 : x17_2 < (t329.length : Int) := of_decide_eq_true (by first | (with_reducible assumption) | assumption)
         obtain ⟨ad342, e342, hx342_0, hx342_1⟩ := at_T56 (Kd.R_reads' HO_10.out).2.2 x17_2 p342 q342
         cases e342
         replace p342 := eq_true p342
         replace q342 := eq_true q342
         replace hc317 := ce2_ BK317
         have p343 : 0 ≤ (x17_2 : Int) := of_decide_eq_true (by first | (with_reducible assumption) | assumption)
         have q343 : x17_2 < (t329.length : Int) := of_decide_eq_true (by first | (with_reducible assumption) | assumption)
         obtain ⟨ad343, e343, hx343_0, hx343_1⟩ := at_T56 (Kd.R_reads' HO_10.out).2.2 x17_2 p343 q343
         obtain rfl : ad342 = ad343 := (by injection e343)
         replace p343 := eq_true p343
         replace q343 := eq_true q343
         go_wp2
         repeat (go_quiet (fail); try go_wp2)
         go_roundg k2
         case measure => have := HJ3.out; have := HK2.out; omega
         case rel => exact ⟨(wrap64 (x17_2 + 1)), rf_, H', ⟨by have := HJ3.out; have := HK2.out; omega⟩, ⟨rs_ HO_6⟩, ⟨rs_ HO_10⟩, ⟨rs_ HO_12⟩, ⟨bq_ BK317⟩, bw_⟩
       ·rw [if_neg c49] at H
        have c49b0 : decide (x17_2 < (t329.length : Int)) = false := decide_eq_false c49
        clear c49
        have H' := Aside0.mk H
        clear H
        obtain ⟨Ao63, co63, eo63⟩ := Kd.R_slice HO_10.out
        subst eo63
        go_wp2
        repeat (go_quiet (fail); try go_wp2)
        go_loopg [16, 18] k2 (fun kq v16 v18 w' => ∃ (x16_3 : Bool) (x18_3 : Int), v16 = .bool x16_3 ∧ v18 = .int .i64 x18_3 ∧ Aside0 (spigotlaw38_WindowFixed.l1 kq l1 t318 t322 t333 x16_3 x18_3 a0_0 a0_1 = some r) ∧ Aside0 (kq ≤ k2) ∧ Aside0 (Kd.R k58 58 w' w.heap.size (fun _ => True) (.slice Ao38 t322.length co38) t322) ∧ Aside0 (Kd.R k56 56 w' w.heap.size (fun _ => True) v334 t333) ∧ Aside0 (w'.heap[gb317]? = some (.cells #[.int .i64 a0_0, .int .i64 a0_1] 23 (0, 0))) ∧ Aside0 (Below w.heap.size w w'))
        case atStart => exact ⟨(true), (0), rf_, rf_, H', ⟨Nat.le_refl _⟩, ⟨rs_ HO_6⟩, ⟨by (with_reducible repeat (first | apply Kd.R_alloc | apply Kd.R_drewN | apply Kd.R_drew)); exact Kd.R_mono HO_12.out (fun _ hk => trivial)⟩, ⟨bq_ BK317⟩, bw_⟩
        case round =>
         clear H'
         try clear c1
         try clear c19
         try clear c21
         try clear c21b0
         try clear c21b1
         try clear c23
         try clear c23b0
         try clear c23b1
         try clear c24
         try clear c24b0
         try clear c24b1
         try clear c29
         try clear c29b0
         try clear c29b1
         try clear c30
         try clear c30b0
         try clear c31
         try clear c31b0
         try clear c31b1
         try clear c32
         try clear c32b0
         try clear c32b1
         try clear c33
         try clear c33b0
         try clear c33b1
         try clear c35
         try clear c49
         try clear c49b0
         try clear hcz39_0
         try clear hcz39_1
         try clear hcz41_0
         try clear hcz41_1
         try clear hcz43_0
         try clear hcz43_1
         try clear hcz45_0
         try clear hcz45_1
         try clear hcz47_0
         try clear hcz47_1
         try clear hfz39_0
         try clear hfz39_1
         try clear hfz41_0
         try clear hfz41_1
         try clear hfz43_0
         try clear hfz43_1
         try clear hfz45_0
         try clear hfz45_1
         try clear hfz47_0
         try clear hfz47_1
         obtain ⟨x16_3, x18_3, rfl, rfl, HA, HK3, HO_6, HO_12, BK317, HB⟩ := hrel
         cases gk with
         | zero => exact absurd HA.out (by simp [spigotlaw38_WindowFixed.l1])
         | succ k3 =>
          have H := HA.out
          clear HA
          simp only [spigotlaw38_WindowFixed.l1] at H
          by_cases c64 : x18_3 < (t333.length : Int)
          ·rw [if_pos c64] at H
           have c64b0 : decide (x18_3 < (t333.length : Int)) = true := decide_eq_true c64
           clear c64
           by_cases c65 : x16_3 = true
           ·subst c65
            rw [if_pos rfl] at H
            try dsimp only at H
            by_cases c66 : 0 ≤ x18_3
            rotate_left
            ·rw [if_neg c66] at H; exact absurd H (by simp)
            rw [if_pos c66] at H
            have c66b0 : decide (0 ≤ x18_3) = true := decide_eq_true c66
            clear c66
            have H' := Aside0.mk H
            clear H
            obtain ⟨Ao67, co67, eo67⟩ := Kd.R_slice HO_12.out
            subst eo67
            have p346 : 0 ≤ (x18_3 : Int) := of_decide_eq_true (by first | (with_reducible assumption) | assumption)
            have q346 : x18_3 < (t333.length : Int) := of_decide_eq_true (by first | (with_reducible assumption) | assumption)
            obtain ⟨ad346, e346, hx346_0, hx346_1⟩ := at_T56 (Kd.R_reads' HO_12.out).2.2 x18_3 p346 q346
            cases e346
            replace p346 := eq_true p346
            replace q346 := eq_true q346
            replace hc317 := ce2_ BK317
            go_wp2
            repeat (go_quiet (fail); try go_wp2)
            go_roundg k3
            case measure => have := HJ3.out; have := HK2.out; have := HK3.out; omega
            case rel => exact ⟨(decide (((rd_T56 t333 x18_3).f1) ≤ a0_0)), (wrap64 (x18_3 + 1)), rf_, rf_, H', ⟨by have := HJ3.out; have := HK2.out; have := HK3.out; omega⟩, ⟨rs_ HO_6⟩, ⟨rs_ HO_12⟩, ⟨bq_ BK317⟩, bw_⟩
           ·replace c65 := Bool.eq_false_iff.mpr c65
            subst c65
            rw [if_neg (show ¬ (false = true) by decide)] at H
            try dsimp only at H
            have H' := Aside0.mk H
            clear H
            obtain ⟨Ao69, co69, eo69⟩ := Kd.R_slice HO_12.out
            subst eo69
            go_wp2
            repeat (go_quiet (fail); try go_wp2)
            go_roundg k3
            case measure => have := HJ3.out; have := HK2.out; have := HK3.out; omega
            case rel => exact ⟨(false), (wrap64 (x18_3 + 1)), rf_, rf_, H', ⟨by have := HJ3.out; have := HK2.out; have := HK3.out; omega⟩, ⟨rs_ HO_6⟩, ⟨rs_ HO_12⟩, ⟨bq_ BK317⟩, bw_⟩
          ·rw [if_neg c64] at H
           have c64b0 : decide (x18_3 < (t333.length : Int)) = false := decide_eq_false c64
           clear c64
           by_cases c70 : t318 = true
           ·subst c70
            rw [if_pos rfl] at H
            try dsimp only at H
            obtain ⟨t347, A71, H⟩ := bo_ H
            replace H : (some (x16_3 == t347)) = some r := H
            obtain rfl := Option.some.inj H
            obtain ⟨Ao72, co72, eo72⟩ := Kd.R_slice HO_12.out
            subst eo72
            go_wp2_with (first | (go_at_call 25; (with_reducible refine (spigotref38_Same.calls k3 _ _ t322 _ _ l1 t347 _ ?side1 ?side2 ?side3 ?side4 A71.out).mono ?_); (case side1 => exact cr_ HO_6); (case side2 => exact (Kd.R_reads' HO_6.out).2.1); (case side3 => exact cs_ HR1 HB); (case side4 => exact HC1.out); rintro e w' ⟨rfl, ⟨nd, rfl⟩⟩; (try first | exact ⟨rfl, _, World.drewN_drewN _ _ _⟩ | exact ⟨rfl, _, Eq.trans (World.drewN_drewN _ _ _) (congrArg (World.drewN _) (Nat.add_assoc _ _ _))⟩)))
            repeat (go_quiet (first | (go_at_call 25; (with_reducible refine (spigotref38_Same.calls k3 _ _ t322 _ _ l1 t347 _ ?side1 ?side2 ?side3 ?side4 A71.out).mono ?_); (case side1 => exact cr_ HO_6); (case side2 => exact (Kd.R_reads' HO_6.out).2.1); (case side3 => exact cs_ HR1 HB); (case side4 => exact HC1.out); rintro e w' ⟨rfl, ⟨nd, rfl⟩⟩; (try first | exact ⟨rfl, _, World.drewN_drewN _ _ _⟩ | exact ⟨rfl, _, Eq.trans (World.drewN_drewN _ _ _) (congrArg (World.drewN _) (Nat.add_assoc _ _ _))⟩))); try go_wp2_with (first | (go_at_call 25; (with_reducible refine (spigotref38_Same.calls k3 _ _ t322 _ _ l1 t347 _ ?side1 ?side2 ?side3 ?side4 A71.out).mono ?_); (case side1 => exact cr_ HO_6); (case side2 => exact (Kd.R_reads' HO_6.out).2.1); (case side3 => exact cs_ HR1 HB); (case side4 => exact HC1.out); rintro e w' ⟨rfl, ⟨nd, rfl⟩⟩; (try first | exact ⟨rfl, _, World.drewN_drewN _ _ _⟩ | exact ⟨rfl, _, Eq.trans (World.drewN_drewN _ _ _) (congrArg (World.drewN _) (Nat.add_assoc _ _ _))⟩))))
            go_ret
            exact fi_
           ·replace c70 := Bool.eq_false_iff.mpr c70
            subst c70
            replace H : (none) = some r := by rw [if_neg (show ¬ (false = true) by decide)] at H; exact H
            exact absurd H (by simp)
    ·replace c35 := Bool.eq_false_iff.mpr c35
     subst c35
     replace H : (none) = some r := by rw [if_neg (show ¬ (false = true) by decide)] at H; exact H
     exact absurd H (by simp)

end Go.Proofs.Ytjjmnafhaneflaa.X
