-- written by xprint.py, a program of this session over the kit's print
import Derived.Test.YtbfdpodlnijeoaaX0
import Derived.Test.YtbfdpodlnijeoaaX13
import Derived.Test.YtbfdpodlnijeoaaX14
import Derived.Test.YtbfdpodlnijeoaaX17
import Derived.Test.YtbfdpodlnijeoaaX19
import Derived.Test.YtbfdpodlnijeoaaX20
namespace Go.Proofs.Ytbfdpodlnijeoaa.X
open Go.RowKit Go.Proofs.YtbfdpodlnijeoaaW.PrintWords Go.Proofs.YtbfdpodlnijeoaaW.PrintLast Go.Proofs.YtbfdpodlnijeoaaW.PrintMore
attribute [local go_sem] max2_int min2_int max_two min_two max_three min_three max_four min_four   -- for this text's walks alone
set_option linter.unusedVariables false
set_option linter.unusedSimpArgs false

/-! ### spigotlaw42_LeaseMakes: function 3 -/
mutual
def spigotlaw42_LeaseMakes.j0 : Nat → Bool → Bool → Int → Int → Int → Int → Int → Int → Int → List Int → Int → Int → Int → Int → Option (Bool)
  | 0, _, _, _, _, _, _, _, _, _, _, _, _, _, _ => none
  | k + 1, x5, x40, x287000, x287001, x287002, x287003, x287004, x287005, x287006, x287007, x288000, x288001, x288002, x288003 => if x40 = true then (some x5) else ((lease_Step.f k x287000 x287001 x287002 x287003 x287004 x287005 x287006 x287007 x288000 x288001 (mn x288002 x287005) x288003).bind fun bt292 => ((lease_Out.f k x287000 x287001 x287002 x287003 x287004 x287005 x287006 x287007).bind fun bt305 => ((lease_Out.f k bt292.1 bt292.2.1 bt292.2.2.1 bt292.2.2.2.1 bt292.2.2.2.2.1 bt292.2.2.2.2.2.1 bt292.2.2.2.2.2.2.1 bt292.2.2.2.2.2.2.2.1).bind fun bt307 => (if bt292.2.2.2.2.2.2.2.2.2 = 0 then (if bt305.2 = 0 then (if bt307.2 = 0 then (if (bt292.2.2.2.2.2.2.2.1.length : Int) = (x287007.length : Int) then (if bt292.2.2.2.2.2.1 = x287005 then (if bt292.2.2.2.2.2.2.1 = x287006 then (spigotlaw42_LeaseMakes.l0 k x5 bt292.2.2.2.2.2.2.2.2.1 bt305.1 bt307.1 0 x287000 x287001 x287002 x287003 x287004 x287005 x287006 x287007 x288000 x288001 (mn x288002 x287005) x288003 bt292.1 bt292.2.1 bt292.2.2.1 bt292.2.2.2.1 bt292.2.2.2.2.1 bt292.2.2.2.2.2.1 bt292.2.2.2.2.2.2.1 bt292.2.2.2.2.2.2.2.1) else (none)) else (none)) else (none)) else (none)) else (none)) else (none)))))
def spigotlaw42_LeaseMakes.l0 : Nat → Bool → Int → Int → Int → Int → Int → Int → Int → Int → Int → Int → Int → List Int → Int → Int → Int → Int → Int → Int → Int → Int → Int → Int → Int → List Int → Option (Bool)
  | 0, _, _, _, _, _, _, _, _, _, _, _, _, _, _, _, _, _, _, _, _, _, _, _, _, _ => none
  | k + 1, x5, x7, x9, x11, x13, x287000, x287001, x287002, x287003, x287004, x287005, x287006, x287007, x288000, x288001, x288002, x288003, x305000, x305001, x305002, x305003, x305004, x305005, x305006, x305007 => if x13 < (x287007.length : Int) then (if x13 = x288001 then (spigotlaw42_LeaseMakes.l0 k x5 x7 x9 x11 (wrap64 (x13 + 1)) x287000 x287001 x287002 x287003 x287004 x287005 x287006 x287007 x288000 x288001 x288002 x288003 x305000 x305001 x305002 x305003 x305004 x305005 x305006 x305007) else (if 0 ≤ x13 then (if x13 < (x305007.length : Int) then (if (rd x305007 x13) = (rd x287007 x13) then (spigotlaw42_LeaseMakes.l0 k x5 x7 x9 x11 (wrap64 (x13 + 1)) x287000 x287001 x287002 x287003 x287004 x287005 x287006 x287007 x288000 x288001 x288002 x288003 x305000 x305001 x305002 x305003 x305004 x305005 x305006 x305007) else (none)) else (none)) else (none))) else (if x288000 = 1 then (if x5 = true then (if x7 ≥ 0 then (if x7 ≤ x287006 then (if (wrap64 (x11 + x305003)) = (wrap64 (x9 + x287003)) then (some (x11 == (wrap64 (x9 + x7)))) else (none)) else (none)) else (none)) else (none)) else (if x288000 = 2 then (if x5 = true then (if x7 = (-1) then (if 0 ≤ x288001 then (if x288001 < (x287007.length : Int) then (if x288003 > (rd x287007 x288001) then (if (wrap64 (x11 + x305003)) = (wrap64 (x9 + x287003)) then (if x11 = x9 then (some true) else (if x7 = x288003 then (if (wrap64 (x11 + x305003)) = (wrap64 ((wrap64 (x9 + x287003)) - x7)) then (some (x11 == (wrap64 (x9 - x7)))) else (none)) else (none))) else (if x7 = x288003 then (if (wrap64 (x11 + x305003)) = (wrap64 ((wrap64 (x9 + x287003)) - x7)) then (some (x11 == (wrap64 (x9 - x7)))) else (none)) else (none))) else (if x7 = x288003 then (if (wrap64 (x11 + x305003)) = (wrap64 ((wrap64 (x9 + x287003)) - x7)) then (some (x11 == (wrap64 (x9 - x7)))) else (none)) else (none))) else (none)) else (none)) else (if x7 = x288003 then (if (wrap64 (x11 + x305003)) = (wrap64 ((wrap64 (x9 + x287003)) - x7)) then (some (x11 == (wrap64 (x9 - x7)))) else (none)) else (none))) else (none)) else (if x288000 = 3 then (if x5 = true then (if 0 ≤ x288001 then (if x288001 < (x287007.length : Int) then (if x7 = (rd x287007 x288001) then (if x11 = (wrap64 (x9 - x7)) then (if (wrap64 (x11 + x305003)) ≤ (wrap64 (x9 + x287003)) then (if (wrap64 (x11 + x305003)) = (wrap64 (x9 + x287003)) then (some true) else (some (x305003 == x287000))) else (none)) else (none)) else (none)) else (none)) else (none)) else (none)) else (if x5 = true then (if 0 ≤ x288001 then (if x288001 < (x287007.length : Int) then (if x7 = (rd x287007 x288001) then (if x11 = (wrap64 (x9 - x7)) then (some ((wrap64 (x11 + x305003)) == (wrap64 ((wrap64 (x9 + x287003)) - x7)))) else (none)) else (none)) else (none)) else (none)) else (none)))))
end
def spigotlaw42_LeaseMakes.f (k : Nat) (a0_0 : Int) (a0_1 : Int) (a0_2 : Int) (a0_3 : Int) (a0_4 : Int) (a0_5 : Int) (a0_6 : Int) (l0_7 : List Int) (a1_0 : Int) (a1_1 : Int) (a1_2 : Int) (a1_3 : Int) : Option (Bool) := (spigotlaw42_alive.f k).bind fun t288 => ((spigotref42_Great.f a0_0 a0_1 a0_2 a0_3 a0_4 a0_5 a0_6 l0_7 ([] : List (S31))).bind fun t289 => (if t289 = true then (spigotlaw42_LeaseMakes.j0 k t288 true a0_0 a0_1 a0_2 a0_3 a0_4 a0_5 a0_6 l0_7 a1_0 a1_1 a1_2 a1_3) else ((spigotref42_Check.f k a0_0 a0_1 a0_2 a0_3 a0_4 a0_5 a0_6 l0_7).bind fun t290 => (if t290 = 0 then ((spigotref42_Valid.f a1_0 a1_1 a1_2 a1_3).bind fun t291 => (if t291 = true then (if a1_1 ≥ (l0_7.length : Int) then (spigotlaw42_LeaseMakes.j0 k t288 true a0_0 a0_1 a0_2 a0_3 a0_4 a0_5 a0_6 l0_7 a1_0 a1_1 a1_2 a1_3) else (spigotlaw42_LeaseMakes.j0 k t288 (!t288) a0_0 a0_1 a0_2 a0_3 a0_4 a0_5 a0_6 l0_7 a1_0 a1_1 a1_2 a1_3)) else (spigotlaw42_LeaseMakes.j0 k t288 true a0_0 a0_1 a0_2 a0_3 a0_4 a0_5 a0_6 l0_7 a1_0 a1_1 a1_2 a1_3))) else (spigotlaw42_LeaseMakes.j0 k t288 true a0_0 a0_1 a0_2 a0_3 a0_4 a0_5 a0_6 l0_7 a1_0 a1_1 a1_2 a1_3)))))
theorem spigotlaw42_LeaseMakes.mono_l : ∀ k, (∀ y0 y1 y2 y3 y4 y5 y6 y7 y8 y9 y10 y11 y12 y13, LeO (spigotlaw42_LeaseMakes.j0 k y0 y1 y2 y3 y4 y5 y6 y7 y8 y9 y10 y11 y12 y13) (spigotlaw42_LeaseMakes.j0 (k + 1) y0 y1 y2 y3 y4 y5 y6 y7 y8 y9 y10 y11 y12 y13)) ∧ (∀ y0 y1 y2 y3 y4 y5 y6 y7 y8 y9 y10 y11 y12 y13 y14 y15 y16 y17 y18 y19 y20 y21 y22 y23 y24, LeO (spigotlaw42_LeaseMakes.l0 k y0 y1 y2 y3 y4 y5 y6 y7 y8 y9 y10 y11 y12 y13 y14 y15 y16 y17 y18 y19 y20 y21 y22 y23 y24) (spigotlaw42_LeaseMakes.l0 (k + 1) y0 y1 y2 y3 y4 y5 y6 y7 y8 y9 y10 y11 y12 y13 y14 y15 y16 y17 y18 y19 y20 y21 y22 y23 y24))
  | 0 => ⟨fun _ _ _ _ _ _ _ _ _ _ _ _ _ _ r h => by simp [spigotlaw42_LeaseMakes.j0] at h, fun _ _ _ _ _ _ _ _ _ _ _ _ _ _ _ _ _ _ _ _ _ _ _ _ _ r h => by simp [spigotlaw42_LeaseMakes.l0] at h⟩
  | k + 1 => by
    obtain ⟨ih0, ih1⟩ := spigotlaw42_LeaseMakes.mono_l k
    refine ⟨?_, ?_⟩
    · intro y0 y1 y2 y3 y4 y5 y6 y7 y8 y9 y10 y11 y12 y13
      unfold spigotlaw42_LeaseMakes.j0
      repeat' first
      | (with_reducible exact ih0 _ _ _ _ _ _ _ _ _ _ _ _ _ _)
      | (with_reducible exact ih1 _ _ _ _ _ _ _ _ _ _ _ _ _ _ _ _ _ _ _ _ _ _ _ _ _)
      | (with_reducible exact lease_Out.mono _ _ _ _ _ _ _ _ _)
      | (with_reducible exact lease_Step.mono _ _ _ _ _ _ _ _ _ _ _ _ _)
      | (with_reducible exact spigotlaw42_alive.mono _)
      | (with_reducible exact spigotref42_Check.mono _ _ _ _ _ _ _ _ _)
      | (with_reducible exact LeO.refl _)
      | (with_reducible exact LeO.none _)
      | (with_reducible refine LeO.ite ?_ ?_)
      | (with_reducible refine LeO.bind ?_ (fun _ => ?_))
      | exact ih0 _ _ _ _ _ _ _ _ _ _ _ _ _ _
      | exact ih1 _ _ _ _ _ _ _ _ _ _ _ _ _ _ _ _ _ _ _ _ _ _ _ _ _
      | exact lease_Out.mono _ _ _ _ _ _ _ _ _
      | exact lease_Step.mono _ _ _ _ _ _ _ _ _ _ _ _ _
      | exact spigotlaw42_alive.mono _
      | exact spigotref42_Check.mono _ _ _ _ _ _ _ _ _
      | exact LeO.none _
      | refine LeO.ite ?_ ?_
      | refine LeO.bind ?_ (fun _ => ?_)
    · intro y0 y1 y2 y3 y4 y5 y6 y7 y8 y9 y10 y11 y12 y13 y14 y15 y16 y17 y18 y19 y20 y21 y22 y23 y24
      unfold spigotlaw42_LeaseMakes.l0
      repeat' first
      | (with_reducible exact ih0 _ _ _ _ _ _ _ _ _ _ _ _ _ _)
      | (with_reducible exact ih1 _ _ _ _ _ _ _ _ _ _ _ _ _ _ _ _ _ _ _ _ _ _ _ _ _)
      | (with_reducible exact lease_Out.mono _ _ _ _ _ _ _ _ _)
      | (with_reducible exact lease_Step.mono _ _ _ _ _ _ _ _ _ _ _ _ _)
      | (with_reducible exact spigotlaw42_alive.mono _)
      | (with_reducible exact spigotref42_Check.mono _ _ _ _ _ _ _ _ _)
      | (with_reducible exact LeO.refl _)
      | (with_reducible exact LeO.none _)
      | (with_reducible refine LeO.ite ?_ ?_)
      | (with_reducible refine LeO.bind ?_ (fun _ => ?_))
      | exact ih0 _ _ _ _ _ _ _ _ _ _ _ _ _ _
      | exact ih1 _ _ _ _ _ _ _ _ _ _ _ _ _ _ _ _ _ _ _ _ _ _ _ _ _
      | exact lease_Out.mono _ _ _ _ _ _ _ _ _
      | exact lease_Step.mono _ _ _ _ _ _ _ _ _ _ _ _ _
      | exact spigotlaw42_alive.mono _
      | exact spigotref42_Check.mono _ _ _ _ _ _ _ _ _
      | exact LeO.none _
      | refine LeO.ite ?_ ?_
      | refine LeO.bind ?_ (fun _ => ?_)
theorem spigotlaw42_LeaseMakes.mono : ∀ a0 a1 a2 a3 a4 a5 a6 a7 a8 a9 a10 a11 k, LeO (spigotlaw42_LeaseMakes.f k a0 a1 a2 a3 a4 a5 a6 a7 a8 a9 a10 a11) (spigotlaw42_LeaseMakes.f (k + 1) a0 a1 a2 a3 a4 a5 a6 a7 a8 a9 a10 a11) := by
  intro a0 a1 a2 a3 a4 a5 a6 a7 a8 a9 a10 a11 k
  obtain ⟨ih0, ih1⟩ := spigotlaw42_LeaseMakes.mono_l k
  unfold spigotlaw42_LeaseMakes.f
  repeat' first
      | (with_reducible exact ih0 _ _ _ _ _ _ _ _ _ _ _ _ _ _)
      | (with_reducible exact ih1 _ _ _ _ _ _ _ _ _ _ _ _ _ _ _ _ _ _ _ _ _ _ _ _ _)
      | (with_reducible exact lease_Out.mono _ _ _ _ _ _ _ _ _)
      | (with_reducible exact lease_Step.mono _ _ _ _ _ _ _ _ _ _ _ _ _)
      | (with_reducible exact spigotlaw42_alive.mono _)
      | (with_reducible exact spigotref42_Check.mono _ _ _ _ _ _ _ _ _)
      | (with_reducible exact LeO.refl _)
      | (with_reducible exact LeO.none _)
      | (with_reducible refine LeO.ite ?_ ?_)
      | (with_reducible refine LeO.bind ?_ (fun _ => ?_))
      | exact ih0 _ _ _ _ _ _ _ _ _ _ _ _ _ _
      | exact ih1 _ _ _ _ _ _ _ _ _ _ _ _ _ _ _ _ _ _ _ _ _ _ _ _ _
      | exact lease_Out.mono _ _ _ _ _ _ _ _ _
      | exact lease_Step.mono _ _ _ _ _ _ _ _ _ _ _ _ _
      | exact spigotlaw42_alive.mono _
      | exact spigotref42_Check.mono _ _ _ _ _ _ _ _ _
      | exact LeO.none _
      | refine LeO.ite ?_ ?_
      | refine LeO.bind ?_ (fun _ => ?_)
set_option maxHeartbeats 8000000 in
set_option maxRecDepth 100000 in
theorem spigotlaw42_LeaseMakes.calls (k : Nat) (a0_0 : Int) (a0_1 : Int) (a0_2 : Int) (a0_3 : Int) (a0_4 : Int) (a0_5 : Int) (a0_6 : Int) (A0_7 : Option Addr) (c0_7 : Nat) (l0_7 : List Int) (a1_0 : Int) (a1_1 : Int) (a1_2 : Int) (a1_3 : Int) (r : Bool) (w : World) (hr0_7 : Kd.C (Kd.int .i64) w A0_7 l0_7.length l0_7) (hc0_7 : l0_7.length ≤ c0_7) (h : spigotlaw42_LeaseMakes.f k a0_0 a0_1 a0_2 a0_3 a0_4 a0_5 a0_6 l0_7 a1_0 a1_1 a1_2 a1_3 = some r) :
  Calls Try.prog 3 #[.agg #[.int .i64 a0_0, .int .i64 a0_1, .int .i64 a0_2, .int .i64 a0_3, .int .i64 a0_4, .int .u64 a0_5, .int .i64 a0_6, .slice A0_7 l0_7.length c0_7], .agg #[.int .u8 a1_0, .int .i64 a1_1, .int .u64 a1_2, .int .i64 a1_3]] w fun e w' => e = .returned (.bool r) ∧ Below w.heap.size w w' := by
 have hu29 := Try.underlying29
 have hu31 := Try.underlying31
 have HR0_7 := Aside0.mk hr0_7
 have HC0_7 := Aside0.mk hc0_7
 clear hr0_7 hc0_7
 have HB := Aside0.mk (Below.refl w.heap.size w)
 have H : ((spigotlaw42_alive.f k).bind fun t288 => ((spigotref42_Great.f a0_0 a0_1 a0_2 a0_3 a0_4 a0_5 a0_6 l0_7 ([] : List (S31))).bind fun t289 => (if t289 = true then (spigotlaw42_LeaseMakes.j0 k t288 true a0_0 a0_1 a0_2 a0_3 a0_4 a0_5 a0_6 l0_7 a1_0 a1_1 a1_2 a1_3) else ((spigotref42_Check.f k a0_0 a0_1 a0_2 a0_3 a0_4 a0_5 a0_6 l0_7).bind fun t290 => (if t290 = 0 then ((spigotref42_Valid.f a1_0 a1_1 a1_2 a1_3).bind fun t291 => (if t291 = true then (if a1_1 ≥ (l0_7.length : Int) then (spigotlaw42_LeaseMakes.j0 k t288 true a0_0 a0_1 a0_2 a0_3 a0_4 a0_5 a0_6 l0_7 a1_0 a1_1 a1_2 a1_3) else (spigotlaw42_LeaseMakes.j0 k t288 (!t288) a0_0 a0_1 a0_2 a0_3 a0_4 a0_5 a0_6 l0_7 a1_0 a1_1 a1_2 a1_3)) else (spigotlaw42_LeaseMakes.j0 k t288 true a0_0 a0_1 a0_2 a0_3 a0_4 a0_5 a0_6 l0_7 a1_0 a1_1 a1_2 a1_3))) else (spigotlaw42_LeaseMakes.j0 k t288 true a0_0 a0_1 a0_2 a0_3 a0_4 a0_5 a0_6 l0_7 a1_0 a1_1 a1_2 a1_3)))))) = some r := h
 clear h
 obtain ⟨t288, A3, H⟩ := bo_ H
 try dsimp only at H
 have HC4 := Aside0.mk H
 clear H
 go_enter Try.func3, Try.ntmps3
 go_upto_region 2 with (first | ((with_reducible refine gate_dst (N := 2) rfl ?_); (try refine ug_ (by rfl) ?_); refine bx_ #[.int .i64 a0_0, .int .i64 a0_1, .int .i64 a0_2, .int .i64 a0_3, .int .i64 a0_4, .int .u64 a0_5, .int .i64 a0_6, .slice A0_7 l0_7.length c0_7] 29 ?_; intro gb286 hg w5 BK286 hb; have GW286 := bz_ w hg; have GE286 := GW286; replace HB := bs_ w hb; clear hb hg) | ((with_reducible refine gate_dst (N := 3) rfl ?_); (try refine ug_ (by rfl) ?_); refine bx_ #[.int .u8 a1_0, .int .i64 a1_1, .int .u64 a1_2, .int .i64 a1_3] 31 ?_; intro gb287 hg w6 BK287 hb; have GW287 := bz_ w hg; have GE287 := GW287; have NB286_287 := bn_ BK286 hg; have NB287_286 := bm_ BK286 hg; replace BK286 := bb_ BK286 hb; replace HB := bs_ w hb; clear hb hg) | (go_at_call 10; (with_reducible refine (spigotlaw42_alive.calls k  t288 _ A3.out).mono ?_); rintro e w7 ⟨rfl, hb⟩; replace BK286 := bb_ BK286 hb; replace BK287 := bb_ BK287 hb; replace HB := bs_ w hb; clear hb))
 repeat (go_quiet (first | ((with_reducible refine gate_dst (N := 2) rfl ?_); (try refine ug_ (by rfl) ?_); refine bx_ #[.int .i64 a0_0, .int .i64 a0_1, .int .i64 a0_2, .int .i64 a0_3, .int .i64 a0_4, .int .u64 a0_5, .int .i64 a0_6, .slice A0_7 l0_7.length c0_7] 29 ?_; intro gb286 hg w5 BK286 hb; have GW286 := bz_ w hg; have GE286 := GW286; replace HB := bs_ w hb; clear hb hg) | ((with_reducible refine gate_dst (N := 3) rfl ?_); (try refine ug_ (by rfl) ?_); refine bx_ #[.int .u8 a1_0, .int .i64 a1_1, .int .u64 a1_2, .int .i64 a1_3] 31 ?_; intro gb287 hg w6 BK287 hb; have GW287 := bz_ w hg; have GE287 := GW287; have NB286_287 := bn_ BK286 hg; have NB287_286 := bm_ BK286 hg; replace BK286 := bb_ BK286 hb; replace HB := bs_ w hb; clear hb hg) | (go_at_call 10; (with_reducible refine (spigotlaw42_alive.calls k  t288 _ A3.out).mono ?_); rintro e w7 ⟨rfl, hb⟩; replace BK286 := bb_ BK286 hb; replace BK287 := bb_ BK287 hb; replace HB := bs_ w hb; clear hb)); go_upto_region 2 with (first | ((with_reducible refine gate_dst (N := 2) rfl ?_); (try refine ug_ (by rfl) ?_); refine bx_ #[.int .i64 a0_0, .int .i64 a0_1, .int .i64 a0_2, .int .i64 a0_3, .int .i64 a0_4, .int .u64 a0_5, .int .i64 a0_6, .slice A0_7 l0_7.length c0_7] 29 ?_; intro gb286 hg w5 BK286 hb; have GW286 := bz_ w hg; have GE286 := GW286; replace HB := bs_ w hb; clear hb hg) | ((with_reducible refine gate_dst (N := 3) rfl ?_); (try refine ug_ (by rfl) ?_); refine bx_ #[.int .u8 a1_0, .int .i64 a1_1, .int .u64 a1_2, .int .i64 a1_3] 31 ?_; intro gb287 hg w6 BK287 hb; have GW287 := bz_ w hg; have GE287 := GW287; have NB286_287 := bn_ BK286 hg; have NB287_286 := bm_ BK286 hg; replace BK286 := bb_ BK286 hb; replace HB := bs_ w hb; clear hb hg) | (go_at_call 10; (with_reducible refine (spigotlaw42_alive.calls k  t288 _ A3.out).mono ?_); rintro e w7 ⟨rfl, hb⟩; replace BK286 := bb_ BK286 hb; replace BK287 := bb_ BK287 hb; replace HB := bs_ w hb; clear hb)))
 (try simp only [Act.put, List.setIfInBounds_toArray, List.set_cons_zero, List.set_cons_succ])
 go_cut [40] (fun v40 wc => ∃ (kq : Nat) (x40_3 : Bool), v40 = .bool x40_3 ∧ Aside0 (spigotlaw42_LeaseMakes.j0 kq t288 x40_3 a0_0 a0_1 a0_2 a0_3 a0_4 a0_5 a0_6 l0_7 a1_0 a1_1 a1_2 a1_3 = some r) ∧ Aside0 (kq ≤ k) ∧ Aside0 (wc.heap[gb286]? = some (.cells #[.int .i64 a0_0, .int .i64 a0_1, .int .i64 a0_2, .int .i64 a0_3, .int .i64 a0_4, .int .u64 a0_5, .int .i64 a0_6, (.slice A0_7 l0_7.length c0_7)] 29 (0, 0))) ∧ Aside0 (wc.heap[gb287]? = some (.cells #[.int .u8 a1_0, .int .i64 a1_1, .int .u64 a1_2, .int .i64 a1_3] 31 (0, 0))) ∧ Aside0 (Below w.heap.size w wc))
 case first =>
  have H := HC4.out
  clear HC4
  obtain ⟨t289, A8, H⟩ := bo_ H
  try dsimp only at H
  by_cases c9 : t289 = true
  ·subst c9
   rw [if_pos rfl] at H
   try dsimp only at H
   have H' := Aside0.mk H
   clear H
   replace hn286_287 := NB286_287.out
   replace hn287_286 := NB287_286.out
   replace hc286 := ce8_ BK286
   as_aux_lemma =>
    go_wp2_with (first | (go_at_call 11; (refine (spigotref42_Great.calls a0_0 a0_1 a0_2 a0_3 a0_4 a0_5 a0_6 _ _ l0_7 _ _ ([] : List (S31)) true _ ?side1 ?side2 ?side3 ?side4 A8.out).mono ?_); (case side1 => exact cs_ HR0_7 HB); (case side2 => exact HC0_7.out); (case side3 => exact Kd.C_nil _ _); (case side4 => exact Nat.le_refl _); rintro e w12 ⟨rfl, hb⟩; replace BK286 := bb_ BK286 hb; replace BK287 := bb_ BK287 hb; replace HB := bs_ w hb; clear hb))
    repeat (go_quiet (first | (go_at_call 11; (refine (spigotref42_Great.calls a0_0 a0_1 a0_2 a0_3 a0_4 a0_5 a0_6 _ _ l0_7 _ _ ([] : List (S31)) true _ ?side1 ?side2 ?side3 ?side4 A8.out).mono ?_); (case side1 => exact cs_ HR0_7 HB); (case side2 => exact HC0_7.out); (case side3 => exact Kd.C_nil _ _); (case side4 => exact Nat.le_refl _); rintro e w12 ⟨rfl, hb⟩; replace BK286 := bb_ BK286 hb; replace BK287 := bb_ BK287 hb; replace HB := bs_ w hb; clear hb)); try go_wp2_with (first | (go_at_call 11; (refine (spigotref42_Great.calls a0_0 a0_1 a0_2 a0_3 a0_4 a0_5 a0_6 _ _ l0_7 _ _ ([] : List (S31)) true _ ?side1 ?side2 ?side3 ?side4 A8.out).mono ?_); (case side1 => exact cs_ HR0_7 HB); (case side2 => exact HC0_7.out); (case side3 => exact Kd.C_nil _ _); (case side4 => exact Nat.le_refl _); rintro e w12 ⟨rfl, hb⟩; replace BK286 := bb_ BK286 hb; replace BK287 := bb_ BK287 hb; replace HB := bs_ w hb; clear hb)))
    go_meet
    case rel => exact ⟨_, (true), rf_, H', al_, ⟨bq_ BK286⟩, ⟨bq_ BK287⟩, bw_⟩
  ·replace c9 := Bool.eq_false_iff.mpr c9
   subst c9
   rw [if_neg (show ¬ (false = true) by decide)] at H
   try dsimp only at H
   obtain ⟨t290, A13, H⟩ := bo_ H
   try dsimp only at H
   by_cases c14 : t290 = 0
   ·rw [if_pos c14] at H
    have c14b0 : (t290 == 0) = true := beq_iff_eq.mpr c14
    have c14b1 : (t290 != 0) = false := bne_eq_false_iff_eq.mpr c14
    clear c14
    (first | rw [c14b0] | (simp only [i64_w, i32_w]; rw [c14b0]) | skip)
    obtain ⟨t291, A15, H⟩ := bo_ H
    try dsimp only at H
    by_cases c16 : t291 = true
    ·subst c16
     rw [if_pos rfl] at H
     try dsimp only at H
     by_cases c17 : a1_1 ≥ (l0_7.length : Int)
     ·rw [if_pos c17] at H
      have c17b0 : decide ((l0_7.length : Int) ≤ a1_1) = true := decide_eq_true c17
      clear c17
      have H' := Aside0.mk H
      clear H
      replace hn286_287 := NB286_287.out
      replace hn287_286 := NB287_286.out
      replace hc286 := ce8_ BK286
      as_aux_lemma =>
       go_wp2_with (first | (go_at_call 11; (refine (spigotref42_Great.calls a0_0 a0_1 a0_2 a0_3 a0_4 a0_5 a0_6 _ _ l0_7 _ _ ([] : List (S31)) false _ ?side1 ?side2 ?side3 ?side4 A8.out).mono ?_); (case side1 => exact cs_ HR0_7 HB); (case side2 => exact HC0_7.out); (case side3 => exact Kd.C_nil _ _); (case side4 => exact Nat.le_refl _); rintro e w20 ⟨rfl, hb⟩; replace BK286 := bb_ BK286 hb; replace BK287 := bb_ BK287 hb; replace HB := bs_ w hb; clear hb; obtain ⟨hcz21_0, hcz21_1, hcz21_2, hcz21_3, hcz21_4, hcz21_5, hcz21_6, hcz21_7, hfz21_0, hfz21_1, hfz21_2, hfz21_3, hfz21_4, hfz21_5, hfz21_6, hfz21_7⟩ := ce8_ BK286) | (go_at_call 12; (with_reducible refine (spigotref42_Check.calls k a0_0 a0_1 a0_2 a0_3 a0_4 a0_5 a0_6 _ _ l0_7 t290 _ ?side1 ?side2 A13.out).mono ?_); (case side1 => exact cs_ HR0_7 HB); (case side2 => exact HC0_7.out); rintro e w22 ⟨rfl, hb⟩; replace BK286 := bb_ BK286 hb; replace BK287 := bb_ BK287 hb; replace HB := bs_ w hb; clear hb; obtain ⟨hcz23_0, hcz23_1, hcz23_2, hcz23_3, hfz23_0, hfz23_1, hfz23_2, hfz23_3⟩ := ce4_ BK287) | (go_at_call 13; (with_reducible refine (spigotref42_Valid.calls a1_0 a1_1 a1_2 a1_3 true _ A15.out).mono ?_); rintro e w24 ⟨rfl, hb⟩; replace BK286 := bb_ BK286 hb; replace BK287 := bb_ BK287 hb; replace HB := bs_ w hb; clear hb; obtain ⟨hcz25_0, hcz25_1, hcz25_2, hcz25_3, hfz25_0, hfz25_1, hfz25_2, hfz25_3⟩ := ce4_ BK287; obtain ⟨hcz26_0, hcz26_1, hcz26_2, hcz26_3, hcz26_4, hcz26_5, hcz26_6, hcz26_7, hfz26_0, hfz26_1, hfz26_2, hfz26_3, hfz26_4, hfz26_5, hfz26_6, hfz26_7⟩ := ce8_ BK286))
       repeat (go_quiet (first | (go_at_call 11; (refine (spigotref42_Great.calls a0_0 a0_1 a0_2 a0_3 a0_4 a0_5 a0_6 _ _ l0_7 _ _ ([] : List (S31)) false _ ?side1 ?side2 ?side3 ?side4 A8.out).mono ?_); (case side1 => exact cs_ HR0_7 HB); (case side2 => exact HC0_7.out); (case side3 => exact Kd.C_nil _ _); (case side4 => exact Nat.le_refl _); rintro e w20 ⟨rfl, hb⟩; replace BK286 := bb_ BK286 hb; replace BK287 := bb_ BK287 hb; replace HB := bs_ w hb; clear hb; obtain ⟨hcz21_0, hcz21_1, hcz21_2, hcz21_3, hcz21_4, hcz21_5, hcz21_6, hcz21_7, hfz21_0, hfz21_1, hfz21_2, hfz21_3, hfz21_4, hfz21_5, hfz21_6, hfz21_7⟩ := ce8_ BK286) | (go_at_call 12; (with_reducible refine (spigotref42_Check.calls k a0_0 a0_1 a0_2 a0_3 a0_4 a0_5 a0_6 _ _ l0_7 t290 _ ?side1 ?side2 A13.out).mono ?_); (case side1 => exact cs_ HR0_7 HB); (case side2 => exact HC0_7.out); rintro e w22 ⟨rfl, hb⟩; replace BK286 := bb_ BK286 hb; replace BK287 := bb_ BK287 hb; replace HB := bs_ w hb; clear hb; obtain ⟨hcz23_0, hcz23_1, hcz23_2, hcz23_3, hfz23_0, hfz23_1, hfz23_2, hfz23_3⟩ := ce4_ BK287) | (go_at_call 13; (with_reducible refine (spigotref42_Valid.calls a1_0 a1_1 a1_2 a1_3 true _ A15.out).mono ?_); rintro e w24 ⟨rfl, hb⟩; replace BK286 := bb_ BK286 hb; replace BK287 := bb_ BK287 hb; replace HB := bs_ w hb; clear hb; obtain ⟨hcz25_0, hcz25_1, hcz25_2, hcz25_3, hfz25_0, hfz25_1, hfz25_2, hfz25_3⟩ := ce4_ BK287; obtain ⟨hcz26_0, hcz26_1, hcz26_2, hcz26_3, hcz26_4, hcz26_5, hcz26_6, hcz26_7, hfz26_0, hfz26_1, hfz26_2, hfz26_3, hfz26_4, hfz26_5, hfz26_6, hfz26_7⟩ := ce8_ BK286)); try go_wp2_with (first | (go_at_call 11; (refine (spigotref42_Great.calls a0_0 a0_1 a0_2 a0_3 a0_4 a0_5 a0_6 _ _ l0_7 _ _ ([] : List (S31)) false _ ?side1 ?side2 ?side3 ?side4 A8.out).mono ?_); (case side1 => exact cs_ HR0_7 HB); (case side2 => exact HC0_7.out); (case side3 => exact Kd.C_nil _ _); (case side4 => exact Nat.le_refl _); rintro e w20 ⟨rfl, hb⟩; replace BK286 := bb_ BK286 hb; replace BK287 := bb_ BK287 hb; replace HB := bs_ w hb; clear hb; obtain ⟨hcz21_0, hcz21_1, hcz21_2, hcz21_3, hcz21_4, hcz21_5, hcz21_6, hcz21_7, hfz21_0, hfz21_1, hfz21_2, hfz21_3, hfz21_4, hfz21_5, hfz21_6, hfz21_7⟩ := ce8_ BK286) | (go_at_call 12; (with_reducible refine (spigotref42_Check.calls k a0_0 a0_1 a0_2 a0_3 a0_4 a0_5 a0_6 _ _ l0_7 t290 _ ?side1 ?side2 A13.out).mono ?_); (case side1 => exact cs_ HR0_7 HB); (case side2 => exact HC0_7.out); rintro e w22 ⟨rfl, hb⟩; replace BK286 := bb_ BK286 hb; replace BK287 := bb_ BK287 hb; replace HB := bs_ w hb; clear hb; obtain ⟨hcz23_0, hcz23_1, hcz23_2, hcz23_3, hfz23_0, hfz23_1, hfz23_2, hfz23_3⟩ := ce4_ BK287) | (go_at_call 13; (with_reducible refine (spigotref42_Valid.calls a1_0 a1_1 a1_2 a1_3 true _ A15.out).mono ?_); rintro e w24 ⟨rfl, hb⟩; replace BK286 := bb_ BK286 hb; replace BK287 := bb_ BK287 hb; replace HB := bs_ w hb; clear hb; obtain ⟨hcz25_0, hcz25_1, hcz25_2, hcz25_3, hfz25_0, hfz25_1, hfz25_2, hfz25_3⟩ := ce4_ BK287; obtain ⟨hcz26_0, hcz26_1, hcz26_2, hcz26_3, hcz26_4, hcz26_5, hcz26_6, hcz26_7, hfz26_0, hfz26_1, hfz26_2, hfz26_3, hfz26_4, hfz26_5, hfz26_6, hfz26_7⟩ := ce8_ BK286)))
       go_meet
       case rel => exact ⟨_, (true), rf_, H', al_, ⟨bq_ BK286⟩, ⟨bq_ BK287⟩, bw_⟩
     ·rw [if_neg c17] at H
      have c17b0 : decide ((l0_7.length : Int) ≤ a1_1) = false := decide_eq_false c17
      clear c17
      have H' := Aside0.mk H
      clear H
      replace hn286_287 := NB286_287.out
      replace hn287_286 := NB287_286.out
      replace hc286 := ce8_ BK286
      as_aux_lemma =>
       go_wp2_with (first | (go_at_call 11; (refine (spigotref42_Great.calls a0_0 a0_1 a0_2 a0_3 a0_4 a0_5 a0_6 _ _ l0_7 _ _ ([] : List (S31)) false _ ?side1 ?side2 ?side3 ?side4 A8.out).mono ?_); (case side1 => exact cs_ HR0_7 HB); (case side2 => exact HC0_7.out); (case side3 => exact Kd.C_nil _ _); (case side4 => exact Nat.le_refl _); rintro e w29 ⟨rfl, hb⟩; replace BK286 := bb_ BK286 hb; replace BK287 := bb_ BK287 hb; replace HB := bs_ w hb; clear hb; obtain ⟨hcz30_0, hcz30_1, hcz30_2, hcz30_3, hcz30_4, hcz30_5, hcz30_6, hcz30_7, hfz30_0, hfz30_1, hfz30_2, hfz30_3, hfz30_4, hfz30_5, hfz30_6, hfz30_7⟩ := ce8_ BK286) | (go_at_call 12; (with_reducible refine (spigotref42_Check.calls k a0_0 a0_1 a0_2 a0_3 a0_4 a0_5 a0_6 _ _ l0_7 t290 _ ?side1 ?side2 A13.out).mono ?_); (case side1 => exact cs_ HR0_7 HB); (case side2 => exact HC0_7.out); rintro e w31 ⟨rfl, hb⟩; replace BK286 := bb_ BK286 hb; replace BK287 := bb_ BK287 hb; replace HB := bs_ w hb; clear hb; obtain ⟨hcz32_0, hcz32_1, hcz32_2, hcz32_3, hfz32_0, hfz32_1, hfz32_2, hfz32_3⟩ := ce4_ BK287) | (go_at_call 13; (with_reducible refine (spigotref42_Valid.calls a1_0 a1_1 a1_2 a1_3 true _ A15.out).mono ?_); rintro e w33 ⟨rfl, hb⟩; replace BK286 := bb_ BK286 hb; replace BK287 := bb_ BK287 hb; replace HB := bs_ w hb; clear hb; obtain ⟨hcz34_0, hcz34_1, hcz34_2, hcz34_3, hfz34_0, hfz34_1, hfz34_2, hfz34_3⟩ := ce4_ BK287; obtain ⟨hcz35_0, hcz35_1, hcz35_2, hcz35_3, hcz35_4, hcz35_5, hcz35_6, hcz35_7, hfz35_0, hfz35_1, hfz35_2, hfz35_3, hfz35_4, hfz35_5, hfz35_6, hfz35_7⟩ := ce8_ BK286))
       repeat (go_quiet (first | (go_at_call 11; (refine (spigotref42_Great.calls a0_0 a0_1 a0_2 a0_3 a0_4 a0_5 a0_6 _ _ l0_7 _ _ ([] : List (S31)) false _ ?side1 ?side2 ?side3 ?side4 A8.out).mono ?_); (case side1 => exact cs_ HR0_7 HB); (case side2 => exact HC0_7.out); (case side3 => exact Kd.C_nil _ _); (case side4 => exact Nat.le_refl _); rintro e w29 ⟨rfl, hb⟩; replace BK286 := bb_ BK286 hb; replace BK287 := bb_ BK287 hb; replace HB := bs_ w hb; clear hb; obtain ⟨hcz30_0, hcz30_1, hcz30_2, hcz30_3, hcz30_4, hcz30_5, hcz30_6, hcz30_7, hfz30_0, hfz30_1, hfz30_2, hfz30_3, hfz30_4, hfz30_5, hfz30_6, hfz30_7⟩ := ce8_ BK286) | (go_at_call 12; (with_reducible refine (spigotref42_Check.calls k a0_0 a0_1 a0_2 a0_3 a0_4 a0_5 a0_6 _ _ l0_7 t290 _ ?side1 ?side2 A13.out).mono ?_); (case side1 => exact cs_ HR0_7 HB); (case side2 => exact HC0_7.out); rintro e w31 ⟨rfl, hb⟩; replace BK286 := bb_ BK286 hb; replace BK287 := bb_ BK287 hb; replace HB := bs_ w hb; clear hb; obtain ⟨hcz32_0, hcz32_1, hcz32_2, hcz32_3, hfz32_0, hfz32_1, hfz32_2, hfz32_3⟩ := ce4_ BK287) | (go_at_call 13; (with_reducible refine (spigotref42_Valid.calls a1_0 a1_1 a1_2 a1_3 true _ A15.out).mono ?_); rintro e w33 ⟨rfl, hb⟩; replace BK286 := bb_ BK286 hb; replace BK287 := bb_ BK287 hb; replace HB := bs_ w hb; clear hb; obtain ⟨hcz34_0, hcz34_1, hcz34_2, hcz34_3, hfz34_0, hfz34_1, hfz34_2, hfz34_3⟩ := ce4_ BK287; obtain ⟨hcz35_0, hcz35_1, hcz35_2, hcz35_3, hcz35_4, hcz35_5, hcz35_6, hcz35_7, hfz35_0, hfz35_1, hfz35_2, hfz35_3, hfz35_4, hfz35_5, hfz35_6, hfz35_7⟩ := ce8_ BK286)); try go_wp2_with (first | (go_at_call 11; (refine (spigotref42_Great.calls a0_0 a0_1 a0_2 a0_3 a0_4 a0_5 a0_6 _ _ l0_7 _ _ ([] : List (S31)) false _ ?side1 ?side2 ?side3 ?side4 A8.out).mono ?_); (case side1 => exact cs_ HR0_7 HB); (case side2 => exact HC0_7.out); (case side3 => exact Kd.C_nil _ _); (case side4 => exact Nat.le_refl _); rintro e w29 ⟨rfl, hb⟩; replace BK286 := bb_ BK286 hb; replace BK287 := bb_ BK287 hb; replace HB := bs_ w hb; clear hb; obtain ⟨hcz30_0, hcz30_1, hcz30_2, hcz30_3, hcz30_4, hcz30_5, hcz30_6, hcz30_7, hfz30_0, hfz30_1, hfz30_2, hfz30_3, hfz30_4, hfz30_5, hfz30_6, hfz30_7⟩ := ce8_ BK286) | (go_at_call 12; (with_reducible refine (spigotref42_Check.calls k a0_0 a0_1 a0_2 a0_3 a0_4 a0_5 a0_6 _ _ l0_7 t290 _ ?side1 ?side2 A13.out).mono ?_); (case side1 => exact cs_ HR0_7 HB); (case side2 => exact HC0_7.out); rintro e w31 ⟨rfl, hb⟩; replace BK286 := bb_ BK286 hb; replace BK287 := bb_ BK287 hb; replace HB := bs_ w hb; clear hb; obtain ⟨hcz32_0, hcz32_1, hcz32_2, hcz32_3, hfz32_0, hfz32_1, hfz32_2, hfz32_3⟩ := ce4_ BK287) | (go_at_call 13; (with_reducible refine (spigotref42_Valid.calls a1_0 a1_1 a1_2 a1_3 true _ A15.out).mono ?_); rintro e w33 ⟨rfl, hb⟩; replace BK286 := bb_ BK286 hb; replace BK287 := bb_ BK287 hb; replace HB := bs_ w hb; clear hb; obtain ⟨hcz34_0, hcz34_1, hcz34_2, hcz34_3, hfz34_0, hfz34_1, hfz34_2, hfz34_3⟩ := ce4_ BK287; obtain ⟨hcz35_0, hcz35_1, hcz35_2, hcz35_3, hcz35_4, hcz35_5, hcz35_6, hcz35_7, hfz35_0, hfz35_1, hfz35_2, hfz35_3, hfz35_4, hfz35_5, hfz35_6, hfz35_7⟩ := ce8_ BK286)))
       go_meet
       case rel => exact ⟨_, (!t288), rf_, H', al_, ⟨bq_ BK286⟩, ⟨bq_ BK287⟩, bw_⟩
    ·replace c16 := Bool.eq_false_iff.mpr c16
     subst c16
     rw [if_neg (show ¬ (false = true) by decide)] at H
     try dsimp only at H
     have H' := Aside0.mk H
     clear H
     replace hn286_287 := NB286_287.out
     replace hn287_286 := NB287_286.out
     replace hc286 := ce8_ BK286
     as_aux_lemma =>
      go_wp2_with (first | (go_at_call 11; (refine (spigotref42_Great.calls a0_0 a0_1 a0_2 a0_3 a0_4 a0_5 a0_6 _ _ l0_7 _ _ ([] : List (S31)) false _ ?side1 ?side2 ?side3 ?side4 A8.out).mono ?_); (case side1 => exact cs_ HR0_7 HB); (case side2 => exact HC0_7.out); (case side3 => exact Kd.C_nil _ _); (case side4 => exact Nat.le_refl _); rintro e w38 ⟨rfl, hb⟩; replace BK286 := bb_ BK286 hb; replace BK287 := bb_ BK287 hb; replace HB := bs_ w hb; clear hb; obtain ⟨hcz39_0, hcz39_1, hcz39_2, hcz39_3, hcz39_4, hcz39_5, hcz39_6, hcz39_7, hfz39_0, hfz39_1, hfz39_2, hfz39_3, hfz39_4, hfz39_5, hfz39_6, hfz39_7⟩ := ce8_ BK286) | (go_at_call 12; (with_reducible refine (spigotref42_Check.calls k a0_0 a0_1 a0_2 a0_3 a0_4 a0_5 a0_6 _ _ l0_7 t290 _ ?side1 ?side2 A13.out).mono ?_); (case side1 => exact cs_ HR0_7 HB); (case side2 => exact HC0_7.out); rintro e w40 ⟨rfl, hb⟩; replace BK286 := bb_ BK286 hb; replace BK287 := bb_ BK287 hb; replace HB := bs_ w hb; clear hb; obtain ⟨hcz41_0, hcz41_1, hcz41_2, hcz41_3, hfz41_0, hfz41_1, hfz41_2, hfz41_3⟩ := ce4_ BK287) | (go_at_call 13; (with_reducible refine (spigotref42_Valid.calls a1_0 a1_1 a1_2 a1_3 false _ A15.out).mono ?_); rintro e w42 ⟨rfl, hb⟩; replace BK286 := bb_ BK286 hb; replace BK287 := bb_ BK287 hb; replace HB := bs_ w hb; clear hb))
      repeat (go_quiet (first | (go_at_call 11; (refine (spigotref42_Great.calls a0_0 a0_1 a0_2 a0_3 a0_4 a0_5 a0_6 _ _ l0_7 _ _ ([] : List (S31)) false _ ?side1 ?side2 ?side3 ?side4 A8.out).mono ?_); (case side1 => exact cs_ HR0_7 HB); (case side2 => exact HC0_7.out); (case side3 => exact Kd.C_nil _ _); (case side4 => exact Nat.le_refl _); rintro e w38 ⟨rfl, hb⟩; replace BK286 := bb_ BK286 hb; replace BK287 := bb_ BK287 hb; replace HB := bs_ w hb; clear hb; obtain ⟨hcz39_0, hcz39_1, hcz39_2, hcz39_3, hcz39_4, hcz39_5, hcz39_6, hcz39_7, hfz39_0, hfz39_1, hfz39_2, hfz39_3, hfz39_4, hfz39_5, hfz39_6, hfz39_7⟩ := ce8_ BK286) | (go_at_call 12; (with_reducible refine (spigotref42_Check.calls k a0_0 a0_1 a0_2 a0_3 a0_4 a0_5 a0_6 _ _ l0_7 t290 _ ?side1 ?side2 A13.out).mono ?_); (case side1 => exact cs_ HR0_7 HB); (case side2 => exact HC0_7.out); rintro e w40 ⟨rfl, hb⟩; replace BK286 := bb_ BK286 hb; replace BK287 := bb_ BK287 hb; replace HB := bs_ w hb; clear hb; obtain ⟨hcz41_0, hcz41_1, hcz41_2, hcz41_3, hfz41_0, hfz41_1, hfz41_2, hfz41_3⟩ := ce4_ BK287) | (go_at_call 13; (with_reducible refine (spigotref42_Valid.calls a1_0 a1_1 a1_2 a1_3 false _ A15.out).mono ?_); rintro e w42 ⟨rfl, hb⟩; replace BK286 := bb_ BK286 hb; replace BK287 := bb_ BK287 hb; replace HB := bs_ w hb; clear hb)); try go_wp2_with (first | (go_at_call 11; (refine (spigotref42_Great.calls a0_0 a0_1 a0_2 a0_3 a0_4 a0_5 a0_6 _ _ l0_7 _ _ ([] : List (S31)) false _ ?side1 ?side2 ?side3 ?side4 A8.out).mono ?_); (case side1 => exact cs_ HR0_7 HB); (case side2 => exact HC0_7.out); (case side3 => exact Kd.C_nil _ _); (case side4 => exact Nat.le_refl _); rintro e w38 ⟨rfl, hb⟩; replace BK286 := bb_ BK286 hb; replace BK287 := bb_ BK287 hb; replace HB := bs_ w hb; clear hb; obtain ⟨hcz39_0, hcz39_1, hcz39_2, hcz39_3, hcz39_4, hcz39_5, hcz39_6, hcz39_7, hfz39_0, hfz39_1, hfz39_2, hfz39_3, hfz39_4, hfz39_5, hfz39_6, hfz39_7⟩ := ce8_ BK286) | (go_at_call 12; (with_reducible refine (spigotref42_Check.calls k a0_0 a0_1 a0_2 a0_3 a0_4 a0_5 a0_6 _ _ l0_7 t290 _ ?side1 ?side2 A13.out).mono ?_); (case side1 => exact cs_ HR0_7 HB); (case side2 => exact HC0_7.out); rintro e w40 ⟨rfl, hb⟩; replace BK286 := bb_ BK286 hb; replace BK287 := bb_ BK287 hb; replace HB := bs_ w hb; clear hb; obtain ⟨hcz41_0, hcz41_1, hcz41_2, hcz41_3, hfz41_0, hfz41_1, hfz41_2, hfz41_3⟩ := ce4_ BK287) | (go_at_call 13; (with_reducible refine (spigotref42_Valid.calls a1_0 a1_1 a1_2 a1_3 false _ A15.out).mono ?_); rintro e w42 ⟨rfl, hb⟩; replace BK286 := bb_ BK286 hb; replace BK287 := bb_ BK287 hb; replace HB := bs_ w hb; clear hb)))
      go_meet
      case rel => exact ⟨_, (true), rf_, H', al_, ⟨bq_ BK286⟩, ⟨bq_ BK287⟩, bw_⟩
   ·rw [if_neg c14] at H
    have c14b0 : (t290 == 0) = false := beq_eq_false_iff_ne.mpr c14
    have c14b1 : (t290 != 0) = true := bne_iff_ne.mpr c14
    (first | rw [c14b0] | (simp only [i64_w, i32_w]; rw [c14b0]) | skip)
    have H' := Aside0.mk H
    clear H
    replace hn286_287 := NB286_287.out
    replace hn287_286 := NB287_286.out
    replace hc286 := ce8_ BK286
    as_aux_lemma =>
     go_wp2_with (first | (go_at_call 11; (refine (spigotref42_Great.calls a0_0 a0_1 a0_2 a0_3 a0_4 a0_5 a0_6 _ _ l0_7 _ _ ([] : List (S31)) false _ ?side1 ?side2 ?side3 ?side4 A8.out).mono ?_); (case side1 => exact cs_ HR0_7 HB); (case side2 => exact HC0_7.out); (case side3 => exact Kd.C_nil _ _); (case side4 => exact Nat.le_refl _); rintro e w45 ⟨rfl, hb⟩; replace BK286 := bb_ BK286 hb; replace BK287 := bb_ BK287 hb; replace HB := bs_ w hb; clear hb; obtain ⟨hcz46_0, hcz46_1, hcz46_2, hcz46_3, hcz46_4, hcz46_5, hcz46_6, hcz46_7, hfz46_0, hfz46_1, hfz46_2, hfz46_3, hfz46_4, hfz46_5, hfz46_6, hfz46_7⟩ := ce8_ BK286) | (go_at_call 12; (with_reducible refine (spigotref42_Check.calls k a0_0 a0_1 a0_2 a0_3 a0_4 a0_5 a0_6 _ _ l0_7 t290 _ ?side1 ?side2 A13.out).mono ?_); (case side1 => exact cs_ HR0_7 HB); (case side2 => exact HC0_7.out); rintro e w47 ⟨rfl, hb⟩; replace BK286 := bb_ BK286 hb; replace BK287 := bb_ BK287 hb; replace HB := bs_ w hb; clear hb))
     repeat (go_quiet (first | (go_at_call 11; (refine (spigotref42_Great.calls a0_0 a0_1 a0_2 a0_3 a0_4 a0_5 a0_6 _ _ l0_7 _ _ ([] : List (S31)) false _ ?side1 ?side2 ?side3 ?side4 A8.out).mono ?_); (case side1 => exact cs_ HR0_7 HB); (case side2 => exact HC0_7.out); (case side3 => exact Kd.C_nil _ _); (case side4 => exact Nat.le_refl _); rintro e w45 ⟨rfl, hb⟩; replace BK286 := bb_ BK286 hb; replace BK287 := bb_ BK287 hb; replace HB := bs_ w hb; clear hb; obtain ⟨hcz46_0, hcz46_1, hcz46_2, hcz46_3, hcz46_4, hcz46_5, hcz46_6, hcz46_7, hfz46_0, hfz46_1, hfz46_2, hfz46_3, hfz46_4, hfz46_5, hfz46_6, hfz46_7⟩ := ce8_ BK286) | (go_at_call 12; (with_reducible refine (spigotref42_Check.calls k a0_0 a0_1 a0_2 a0_3 a0_4 a0_5 a0_6 _ _ l0_7 t290 _ ?side1 ?side2 A13.out).mono ?_); (case side1 => exact cs_ HR0_7 HB); (case side2 => exact HC0_7.out); rintro e w47 ⟨rfl, hb⟩; replace BK286 := bb_ BK286 hb; replace BK287 := bb_ BK287 hb; replace HB := bs_ w hb; clear hb)); try go_wp2_with (first | (go_at_call 11; (refine (spigotref42_Great.calls a0_0 a0_1 a0_2 a0_3 a0_4 a0_5 a0_6 _ _ l0_7 _ _ ([] : List (S31)) false _ ?side1 ?side2 ?side3 ?side4 A8.out).mono ?_); (case side1 => exact cs_ HR0_7 HB); (case side2 => exact HC0_7.out); (case side3 => exact Kd.C_nil _ _); (case side4 => exact Nat.le_refl _); rintro e w45 ⟨rfl, hb⟩; replace BK286 := bb_ BK286 hb; replace BK287 := bb_ BK287 hb; replace HB := bs_ w hb; clear hb; obtain ⟨hcz46_0, hcz46_1, hcz46_2, hcz46_3, hcz46_4, hcz46_5, hcz46_6, hcz46_7, hfz46_0, hfz46_1, hfz46_2, hfz46_3, hfz46_4, hfz46_5, hfz46_6, hfz46_7⟩ := ce8_ BK286) | (go_at_call 12; (with_reducible refine (spigotref42_Check.calls k a0_0 a0_1 a0_2 a0_3 a0_4 a0_5 a0_6 _ _ l0_7 t290 _ ?side1 ?side2 A13.out).mono ?_); (case side1 => exact cs_ HR0_7 HB); (case side2 => exact HC0_7.out); rintro e w47 ⟨rfl, hb⟩; replace BK286 := bb_ BK286 hb; replace BK287 := bb_ BK287 hb; replace HB := bs_ w hb; clear hb)))
     go_meet
     case rel => exact ⟨_, (true), rf_, H', al_, ⟨bq_ BK286⟩, ⟨bq_ BK287⟩, bw_⟩
 case rest =>
  clear HC4
  obtain ⟨kq, x40_3, rfl, HA, HJ3, BK286, BK287, HB⟩ := hcut
  cases kq with
  | zero => exact absurd HA.out (by simp [spigotlaw42_LeaseMakes.j0])
  | succ kj3 =>
   have H := HA.out
   clear HA
   simp only [spigotlaw42_LeaseMakes.j0] at H
   by_cases c48 : x40_3 = true
   ·subst c48
    replace H : (some t288) = some r := by rw [if_pos rfl] at H; exact H
    obtain rfl := Option.some.inj H
    as_aux_lemma =>
     go_wp2
     repeat (go_quiet (fail); try go_wp2)
     go_ret
     exact fi_
   ·replace c48 := Bool.eq_false_iff.mpr c48
    subst c48
    rw [if_neg (show ¬ (false = true) by decide)] at H
    try dsimp only at H
    obtain ⟨ji49, hji49⟩ : ∃ j_ : Int, (mn a1_2 a0_5) = j_ := ⟨_, rfl⟩
    replace H : ((lease_Step.f kj3 a0_0 a0_1 a0_2 a0_3 a0_4 a0_5 a0_6 l0_7 a1_0 a1_1 (ji49) a1_3).bind fun bt292 => ((lease_Out.f kj3 a0_0 a0_1 a0_2 a0_3 a0_4 a0_5 a0_6 l0_7).bind fun bt305 => ((lease_Out.f kj3 bt292.1 bt292.2.1 bt292.2.2.1 bt292.2.2.2.1 bt292.2.2.2.2.1 bt292.2.2.2.2.2.1 bt292.2.2.2.2.2.2.1 bt292.2.2.2.2.2.2.2.1).bind fun bt307 => (if bt292.2.2.2.2.2.2.2.2.2 = 0 then (if bt305.2 = 0 then (if bt307.2 = 0 then (if (bt292.2.2.2.2.2.2.2.1.length : Int) = (l0_7.length : Int) then (if bt292.2.2.2.2.2.1 = a0_5 then (if bt292.2.2.2.2.2.2.1 = a0_6 then (spigotlaw42_LeaseMakes.l0 kj3 t288 bt292.2.2.2.2.2.2.2.2.1 bt305.1 bt307.1 0 a0_0 a0_1 a0_2 a0_3 a0_4 a0_5 a0_6 l0_7 a1_0 a1_1 ji49 a1_3 bt292.1 bt292.2.1 bt292.2.2.1 bt292.2.2.2.1 bt292.2.2.2.2.1 bt292.2.2.2.2.2.1 bt292.2.2.2.2.2.2.1 bt292.2.2.2.2.2.2.2.1) else (none)) else (none)) else (none)) else (none)) else (none)) else (none))))) = some r := by first | (rw [hji49] at H; exact H) | (simp only [hji49] at H ⊢; exact H)
    have hji49_ : (if a0_5 < a1_2 then a0_5 else a1_2) = ji49 := hji49
    obtain ⟨⟨t292, t293, t294, t295, t296, t297, t298, t299, t302, t303⟩, A50, H⟩ := bo_ H
    try dsimp only at H
    obtain ⟨⟨t305, t306⟩, A51, H⟩ := bo_ H
    try dsimp only at H
    obtain ⟨⟨t307, t308⟩, A52, H⟩ := bo_ H
    try dsimp only at H
    by_cases c53 : t303 = 0
    rotate_left
    ·rw [if_neg c53] at H; exact absurd H (by simp)
    rw [if_pos c53] at H
    have c53b0 : (t303 == 0) = true := beq_iff_eq.mpr c53
    have c53b1 : (t303 != 0) = false := bne_eq_false_iff_eq.mpr c53
    clear c53
    by_cases c54 : t306 = 0
    rotate_left
    ·rw [if_neg c54] at H; exact absurd H (by simp)
    rw [if_pos c54] at H
    have c54b0 : (t306 == 0) = true := beq_iff_eq.mpr c54
    have c54b1 : (t306 != 0) = false := bne_eq_false_iff_eq.mpr c54
    clear c54
    by_cases c55 : t308 = 0
    rotate_left
    ·rw [if_neg c55] at H; exact absurd H (by simp)
    rw [if_pos c55] at H
    have c55b0 : (t308 == 0) = true := beq_iff_eq.mpr c55
    have c55b1 : (t308 != 0) = false := bne_eq_false_iff_eq.mpr c55
    clear c55
    by_cases c56 : (t299.length : Int) = (l0_7.length : Int)
    rotate_left
    ·rw [if_neg c56] at H; exact absurd H (by simp)
    rw [if_pos c56] at H
    have c56b0 : ((t299.length : Int) == (l0_7.length : Int)) = true := beq_iff_eq.mpr c56
    have c56b1 : ((t299.length : Int) != (l0_7.length : Int)) = false := bne_eq_false_iff_eq.mpr c56
    have c56b2 : (t299.length == l0_7.length) = true := by first | simpa using c56 | (simp at c56 ⊢; omega)
    clear c56
    by_cases c57 : t297 = a0_5
    rotate_left
    ·rw [if_neg c57] at H; exact absurd H (by simp)
    rw [if_pos c57] at H
    have c57b0 : (t297 == a0_5) = true := beq_iff_eq.mpr c57
    have c57b1 : (t297 != a0_5) = false := bne_eq_false_iff_eq.mpr c57
    clear c57
    by_cases c58 : t298 = a0_6
    rotate_left
    ·rw [if_neg c58] at H; exact absurd H (by simp)
    rw [if_pos c58] at H
    have c58b0 : (t298 == a0_6) = true := beq_iff_eq.mpr c58
    have c58b1 : (t298 != a0_6) = false := bne_eq_false_iff_eq.mpr c58
    clear c58
    have H' := Aside0.mk H
    clear H
    replace hn287_286 := NB287_286.out
    replace hn286_287 := NB286_287.out
    replace hc287 := ce4_ BK287
    replace hc286 := ce8_ BK286
    go_wp2_with (first | (go_at_call 14; (with_reducible refine (lease_Step.calls kj3 a0_0 a0_1 a0_2 a0_3 a0_4 a0_5 a0_6 _ _ l0_7 a1_0 a1_1 ji49 a1_3 t292 t293 t294 t295 t296 t297 t298 t299 t302 t303 _ ?side1 ?side2 A50.out).mono ?_); (case side1 => exact Kd.C_below HR0_7.out bh_); (case side2 => exact HC0_7.out); rintro e w62 ⟨v300, rfl, ho0, hb⟩; have HO301 := Aside0.mk (Kd.R_lower ho0 (below_size bh_)); replace BK286 := bf_ BK286 hb; replace BK287 := Aside0.mk (blk_below (g := gb287) (o := .cells #[.int .u8 a1_0, .int .i64 a1_1, .int .u64 ji49, .int .i64 a1_3] 31 (0, 0)) (blk_put (cs := #[.int .u8 a1_0, .int .i64 a1_1, .int .u64 a1_2, .int .i64 a1_3]) (bq_ BK287) 2 _ rfl) hb); replace HB := bs_ w hb; (try clear hb); (try clear hb2); (try clear hk); (try clear hi); (try clear ho0)) | ((with_reducible refine gate_dst (N := 6) rfl ?_); (try refine ug_ (by rfl) ?_); refine bx_ #[.int .i64 0, .int .i64 0, .int .i64 0, .int .i64 0, .int .i64 0, .int .u64 0, .int .i64 0, .slice none 0 0] 29 ?_; intro gb304 hg w63 BK304 hb; have GW304 := bz_ w hg; have GE304 := GW304; have NB286_304 := bn_ BK286 hg; have NB304_286 := bm_ BK286 hg; have NB287_304 := bn_ BK287 hg; have NB304_287 := bm_ BK287 hg; replace HO301 := rb_ HO301 hb; replace BK286 := bb_ BK286 hb; replace BK287 := bb_ BK287 hb; replace HB := bs_ w hb; clear hb hg; have hnb64 := NB304_286.out; have hnc64 := NB286_304.out; have hnb65 := NB304_287.out; have hnc65 := NB287_304.out; obtain ⟨hcz66_0, hcz66_1, hcz66_2, hcz66_3, hcz66_4, hcz66_5, hcz66_6, hcz66_7, hfz66_0, hfz66_1, hfz66_2, hfz66_3, hfz66_4, hfz66_5, hfz66_6, hfz66_7⟩ := ce8_ BK304; obtain ⟨Ao67, co67, eo67⟩ := Kd.R_slice HO301.out; subst eo67; obtain ⟨hcz68_0, hcz68_1, hcz68_2, hcz68_3, hcz68_4, hcz68_5, hcz68_6, hcz68_7, hfz68_0, hfz68_1, hfz68_2, hfz68_3, hfz68_4, hfz68_5, hfz68_6, hfz68_7⟩ := ce8_ BK286) | (go_at_call 15; (with_reducible refine (lease_Out.calls kj3 a0_0 a0_1 a0_2 a0_3 a0_4 a0_5 a0_6 _ _ l0_7 t305 t306 _ ?side1 ?side2 A51.out).mono ?_); (case side1 => exact Kd.C_below HR0_7.out bh_); (case side2 => exact HC0_7.out); rintro e w69 ⟨rfl, hb⟩; replace HO301 := Aside0.mk (Kd.R_below (by (with_reducible repeat (first | apply Kd.R_alloc | apply Kd.R_drewN | apply Kd.R_drew)); exact (Kd.R_mono (Kd.R_far (p := ⟨gb304, 7, none⟩) (Kd.R_far (p := ⟨gb304, 6, none⟩) (Kd.R_far (p := ⟨gb304, 5, none⟩) (Kd.R_far (p := ⟨gb304, 4, none⟩) (Kd.R_far (p := ⟨gb304, 3, none⟩) (Kd.R_far (p := ⟨gb304, 2, none⟩) (Kd.R_far (p := ⟨gb304, 1, none⟩) (Kd.R_far (p := ⟨gb304, 0, none⟩) (Kd.R_types HO301.out BK304.out (by decide)) (fun _ hk => hk.2) (.int .i64 t292)) (fun _ hk => hk.2) (.int .i64 t293)) (fun _ hk => hk.2) (.int .i64 t294)) (fun _ hk => hk.2) (.int .i64 t295)) (fun _ hk => hk.2) (.int .i64 t296)) (fun _ hk => hk.2) (.int .u64 t297)) (fun _ hk => hk.2) (.int .i64 t298)) (fun _ hk => hk.2) (.slice Ao67 t299.length co67)) (fun _ h_ => h_.1))) hb); replace BK286 := bf_ BK286 hb; replace BK287 := bf_ BK287 hb; replace BK304 := Aside0.mk (blk_below (g := gb304) (o := .cells #[.int .i64 t292, .int .i64 t293, .int .i64 t294, .int .i64 t295, .int .i64 t296, .int .u64 t297, .int .i64 t298, .slice Ao67 t299.length co67] 29 (0, 0)) (blk_put (cs := #[.int .i64 t292, .int .i64 t293, .int .i64 t294, .int .i64 t295, .int .i64 t296, .int .u64 t297, .int .i64 t298, .slice none 0 0]) (blk_put (cs := #[.int .i64 t292, .int .i64 t293, .int .i64 t294, .int .i64 t295, .int .i64 t296, .int .u64 t297, .int .i64 0, .slice none 0 0]) (blk_put (cs := #[.int .i64 t292, .int .i64 t293, .int .i64 t294, .int .i64 t295, .int .i64 t296, .int .u64 0, .int .i64 0, .slice none 0 0]) (blk_put (cs := #[.int .i64 t292, .int .i64 t293, .int .i64 t294, .int .i64 t295, .int .i64 0, .int .u64 0, .int .i64 0, .slice none 0 0]) (blk_put (cs := #[.int .i64 t292, .int .i64 t293, .int .i64 t294, .int .i64 0, .int .i64 0, .int .u64 0, .int .i64 0, .slice none 0 0]) (blk_put (cs := #[.int .i64 t292, .int .i64 t293, .int .i64 0, .int .i64 0, .int .i64 0, .int .u64 0, .int .i64 0, .slice none 0 0]) (blk_put (cs := #[.int .i64 t292, .int .i64 0, .int .i64 0, .int .i64 0, .int .i64 0, .int .u64 0, .int .i64 0, .slice none 0 0]) (blk_put (cs := #[.int .i64 0, .int .i64 0, .int .i64 0, .int .i64 0, .int .i64 0, .int .u64 0, .int .i64 0, .slice none 0 0]) (bq_ BK304) 0 _ rfl) 1 _ rfl) 2 _ rfl) 3 _ rfl) 4 _ rfl) 5 _ rfl) 6 _ rfl) 7 _ rfl) hb); replace HB := bs_ w hb; clear hb; obtain ⟨hcz70_0, hcz70_1, hcz70_2, hcz70_3, hcz70_4, hcz70_5, hcz70_6, hcz70_7, hfz70_0, hfz70_1, hfz70_2, hfz70_3, hfz70_4, hfz70_5, hfz70_6, hfz70_7⟩ := ce8_ BK304) | (go_at_call 15; (with_reducible refine (lease_Out.calls kj3 t292 t293 t294 t295 t296 t297 t298 _ _ t299 t307 t308 _ ?side1 ?side2 A52.out).mono ?_); (case side1 => exact cr_ HO301); (case side2 => exact (Kd.R_reads' HO301.out).2.1); rintro e w71 ⟨rfl, hb⟩; replace HO301 := rb_ HO301 hb; replace BK286 := bb_ BK286 hb; replace BK287 := bb_ BK287 hb; replace BK304 := bb_ BK304 hb; replace HB := bs_ w hb; clear hb; obtain ⟨hcz72_0, hcz72_1, hcz72_2, hcz72_3, hcz72_4, hcz72_5, hcz72_6, hcz72_7, hfz72_0, hfz72_1, hfz72_2, hfz72_3, hfz72_4, hfz72_5, hfz72_6, hfz72_7⟩ := ce8_ BK304; obtain ⟨hcz73_0, hcz73_1, hcz73_2, hcz73_3, hcz73_4, hcz73_5, hcz73_6, hcz73_7, hfz73_0, hfz73_1, hfz73_2, hfz73_3, hfz73_4, hfz73_5, hfz73_6, hfz73_7⟩ := ce8_ BK286))
    repeat (go_quiet (first | (go_at_call 14; (with_reducible refine (lease_Step.calls kj3 a0_0 a0_1 a0_2 a0_3 a0_4 a0_5 a0_6 _ _ l0_7 a1_0 a1_1 ji49 a1_3 t292 t293 t294 t295 t296 t297 t298 t299 t302 t303 _ ?side1 ?side2 A50.out).mono ?_); (case side1 => exact Kd.C_below HR0_7.out bh_); (case side2 => exact HC0_7.out); rintro e w62 ⟨v300, rfl, ho0, hb⟩; have HO301 := Aside0.mk (Kd.R_lower ho0 (below_size bh_)); replace BK286 := bf_ BK286 hb; replace BK287 := Aside0.mk (blk_below (g := gb287) (o := .cells #[.int .u8 a1_0, .int .i64 a1_1, .int .u64 ji49, .int .i64 a1_3] 31 (0, 0)) (blk_put (cs := #[.int .u8 a1_0, .int .i64 a1_1, .int .u64 a1_2, .int .i64 a1_3]) (bq_ BK287) 2 _ rfl) hb); replace HB := bs_ w hb; (try clear hb); (try clear hb2); (try clear hk); (try clear hi); (try clear ho0)) | ((with_reducible refine gate_dst (N := 6) rfl ?_); (try refine ug_ (by rfl) ?_); refine bx_ #[.int .i64 0, .int .i64 0, .int .i64 0, .int .i64 0, .int .i64 0, .int .u64 0, .int .i64 0, .slice none 0 0] 29 ?_; intro gb304 hg w63 BK304 hb; have GW304 := bz_ w hg; have GE304 := GW304; have NB286_304 := bn_ BK286 hg; have NB304_286 := bm_ BK286 hg; have NB287_304 := bn_ BK287 hg; have NB304_287 := bm_ BK287 hg; replace HO301 := rb_ HO301 hb; replace BK286 := bb_ BK286 hb; replace BK287 := bb_ BK287 hb; replace HB := bs_ w hb; clear hb hg; have hnb64 := NB304_286.out; have hnc64 := NB286_304.out; have hnb65 := NB304_287.out; have hnc65 := NB287_304.out; obtain ⟨hcz66_0, hcz66_1, hcz66_2, hcz66_3, hcz66_4, hcz66_5, hcz66_6, hcz66_7, hfz66_0, hfz66_1, hfz66_2, hfz66_3, hfz66_4, hfz66_5, hfz66_6, hfz66_7⟩ := ce8_ BK304; obtain ⟨Ao67, co67, eo67⟩ := Kd.R_slice HO301.out; subst eo67; obtain ⟨hcz68_0, hcz68_1, hcz68_2, hcz68_3, hcz68_4, hcz68_5, hcz68_6, hcz68_7, hfz68_0, hfz68_1, hfz68_2, hfz68_3, hfz68_4, hfz68_5, hfz68_6, hfz68_7⟩ := ce8_ BK286) | (go_at_call 15; (with_reducible refine (lease_Out.calls kj3 a0_0 a0_1 a0_2 a0_3 a0_4 a0_5 a0_6 _ _ l0_7 t305 t306 _ ?side1 ?side2 A51.out).mono ?_); (case side1 => exact Kd.C_below HR0_7.out bh_); (case side2 => exact HC0_7.out); rintro e w69 ⟨rfl, hb⟩; replace HO301 := Aside0.mk (Kd.R_below (by (with_reducible repeat (first | apply Kd.R_alloc | apply Kd.R_drewN | apply Kd.R_drew)); exact (Kd.R_mono (Kd.R_far (p := ⟨gb304, 7, none⟩) (Kd.R_far (p := ⟨gb304, 6, none⟩) (Kd.R_far (p := ⟨gb304, 5, none⟩) (Kd.R_far (p := ⟨gb304, 4, none⟩) (Kd.R_far (p := ⟨gb304, 3, none⟩) (Kd.R_far (p := ⟨gb304, 2, none⟩) (Kd.R_far (p := ⟨gb304, 1, none⟩) (Kd.R_far (p := ⟨gb304, 0, none⟩) (Kd.R_types HO301.out BK304.out (by decide)) (fun _ hk => hk.2) (.int .i64 t292)) (fun _ hk => hk.2) (.int .i64 t293)) (fun _ hk => hk.2) (.int .i64 t294)) (fun _ hk => hk.2) (.int .i64 t295)) (fun _ hk => hk.2) (.int .i64 t296)) (fun _ hk => hk.2) (.int .u64 t297)) (fun _ hk => hk.2) (.int .i64 t298)) (fun _ hk => hk.2) (.slice Ao67 t299.length co67)) (fun _ h_ => h_.1))) hb); replace BK286 := bf_ BK286 hb; replace BK287 := bf_ BK287 hb; replace BK304 := Aside0.mk (blk_below (g := gb304) (o := .cells #[.int .i64 t292, .int .i64 t293, .int .i64 t294, .int .i64 t295, .int .i64 t296, .int .u64 t297, .int .i64 t298, .slice Ao67 t299.length co67] 29 (0, 0)) (blk_put (cs := #[.int .i64 t292, .int .i64 t293, .int .i64 t294, .int .i64 t295, .int .i64 t296, .int .u64 t297, .int .i64 t298, .slice none 0 0]) (blk_put (cs := #[.int .i64 t292, .int .i64 t293, .int .i64 t294, .int .i64 t295, .int .i64 t296, .int .u64 t297, .int .i64 0, .slice none 0 0]) (blk_put (cs := #[.int .i64 t292, .int .i64 t293, .int .i64 t294, .int .i64 t295, .int .i64 t296, .int .u64 0, .int .i64 0, .slice none 0 0]) (blk_put (cs := #[.int .i64 t292, .int .i64 t293, .int .i64 t294, .int .i64 t295, .int .i64 0, .int .u64 0, .int .i64 0, .slice none 0 0]) (blk_put (cs := #[.int .i64 t292, .int .i64 t293, .int .i64 t294, .int .i64 0, .int .i64 0, .int .u64 0, .int .i64 0, .slice none 0 0]) (blk_put (cs := #[.int .i64 t292, .int .i64 t293, .int .i64 0, .int .i64 0, .int .i64 0, .int .u64 0, .int .i64 0, .slice none 0 0]) (blk_put (cs := #[.int .i64 t292, .int .i64 0, .int .i64 0, .int .i64 0, .int .i64 0, .int .u64 0, .int .i64 0, .slice none 0 0]) (blk_put (cs := #[.int .i64 0, .int .i64 0, .int .i64 0, .int .i64 0, .int .i64 0, .int .u64 0, .int .i64 0, .slice none 0 0]) (bq_ BK304) 0 _ rfl) 1 _ rfl) 2 _ rfl) 3 _ rfl) 4 _ rfl) 5 _ rfl) 6 _ rfl) 7 _ rfl) hb); replace HB := bs_ w hb; clear hb; obtain ⟨hcz70_0, hcz70_1, hcz70_2, hcz70_3, hcz70_4, hcz70_5, hcz70_6, hcz70_7, hfz70_0, hfz70_1, hfz70_2, hfz70_3, hfz70_4, hfz70_5, hfz70_6, hfz70_7⟩ := ce8_ BK304) | (go_at_call 15; (with_reducible refine (lease_Out.calls kj3 t292 t293 t294 t295 t296 t297 t298 _ _ t299 t307 t308 _ ?side1 ?side2 A52.out).mono ?_); (case side1 => exact cr_ HO301); (case side2 => exact (Kd.R_reads' HO301.out).2.1); rintro e w71 ⟨rfl, hb⟩; replace HO301 := rb_ HO301 hb; replace BK286 := bb_ BK286 hb; replace BK287 := bb_ BK287 hb; replace BK304 := bb_ BK304 hb; replace HB := bs_ w hb; clear hb; obtain ⟨hcz72_0, hcz72_1, hcz72_2, hcz72_3, hcz72_4, hcz72_5, hcz72_6, hcz72_7, hfz72_0, hfz72_1, hfz72_2, hfz72_3, hfz72_4, hfz72_5, hfz72_6, hfz72_7⟩ := ce8_ BK304; obtain ⟨hcz73_0, hcz73_1, hcz73_2, hcz73_3, hcz73_4, hcz73_5, hcz73_6, hcz73_7, hfz73_0, hfz73_1, hfz73_2, hfz73_3, hfz73_4, hfz73_5, hfz73_6, hfz73_7⟩ := ce8_ BK286)); try go_wp2_with (first | (go_at_call 14; (with_reducible refine (lease_Step.calls kj3 a0_0 a0_1 a0_2 a0_3 a0_4 a0_5 a0_6 _ _ l0_7 a1_0 a1_1 ji49 a1_3 t292 t293 t294 t295 t296 t297 t298 t299 t302 t303 _ ?side1 ?side2 A50.out).mono ?_); (case side1 => exact Kd.C_below HR0_7.out bh_); (case side2 => exact HC0_7.out); rintro e w62 ⟨v300, rfl, ho0, hb⟩; have HO301 := Aside0.mk (Kd.R_lower ho0 (below_size bh_)); replace BK286 := bf_ BK286 hb; replace BK287 := Aside0.mk (blk_below (g := gb287) (o := .cells #[.int .u8 a1_0, .int .i64 a1_1, .int .u64 ji49, .int .i64 a1_3] 31 (0, 0)) (blk_put (cs := #[.int .u8 a1_0, .int .i64 a1_1, .int .u64 a1_2, .int .i64 a1_3]) (bq_ BK287) 2 _ rfl) hb); replace HB := bs_ w hb; (try clear hb); (try clear hb2); (try clear hk); (try clear hi); (try clear ho0)) | ((with_reducible refine gate_dst (N := 6) rfl ?_); (try refine ug_ (by rfl) ?_); refine bx_ #[.int .i64 0, .int .i64 0, .int .i64 0, .int .i64 0, .int .i64 0, .int .u64 0, .int .i64 0, .slice none 0 0] 29 ?_; intro gb304 hg w63 BK304 hb; have GW304 := bz_ w hg; have GE304 := GW304; have NB286_304 := bn_ BK286 hg; have NB304_286 := bm_ BK286 hg; have NB287_304 := bn_ BK287 hg; have NB304_287 := bm_ BK287 hg; replace HO301 := rb_ HO301 hb; replace BK286 := bb_ BK286 hb; replace BK287 := bb_ BK287 hb; replace HB := bs_ w hb; clear hb hg; have hnb64 := NB304_286.out; have hnc64 := NB286_304.out; have hnb65 := NB304_287.out; have hnc65 := NB287_304.out; obtain ⟨hcz66_0, hcz66_1, hcz66_2, hcz66_3, hcz66_4, hcz66_5, hcz66_6, hcz66_7, hfz66_0, hfz66_1, hfz66_2, hfz66_3, hfz66_4, hfz66_5, hfz66_6, hfz66_7⟩ := ce8_ BK304; obtain ⟨Ao67, co67, eo67⟩ := Kd.R_slice HO301.out; subst eo67; obtain ⟨hcz68_0, hcz68_1, hcz68_2, hcz68_3, hcz68_4, hcz68_5, hcz68_6, hcz68_7, hfz68_0, hfz68_1, hfz68_2, hfz68_3, hfz68_4, hfz68_5, hfz68_6, hfz68_7⟩ := ce8_ BK286) | (go_at_call 15; (with_reducible refine (lease_Out.calls kj3 a0_0 a0_1 a0_2 a0_3 a0_4 a0_5 a0_6 _ _ l0_7 t305 t306 _ ?side1 ?side2 A51.out).mono ?_); (case side1 => exact Kd.C_below HR0_7.out bh_); (case side2 => exact HC0_7.out); rintro e w69 ⟨rfl, hb⟩; replace HO301 := Aside0.mk (Kd.R_below (by (with_reducible repeat (first | apply Kd.R_alloc | apply Kd.R_drewN | apply Kd.R_drew)); exact (Kd.R_mono (Kd.R_far (p := ⟨gb304, 7, none⟩) (Kd.R_far (p := ⟨gb304, 6, none⟩) (Kd.R_far (p := ⟨gb304, 5, none⟩) (Kd.R_far (p := ⟨gb304, 4, none⟩) (Kd.R_far (p := ⟨gb304, 3, none⟩) (Kd.R_far (p := ⟨gb304, 2, none⟩) (Kd.R_far (p := ⟨gb304, 1, none⟩) (Kd.R_far (p := ⟨gb304, 0, none⟩) (Kd.R_types HO301.out BK304.out (by decide)) (fun _ hk => hk.2) (.int .i64 t292)) (fun _ hk => hk.2) (.int .i64 t293)) (fun _ hk => hk.2) (.int .i64 t294)) (fun _ hk => hk.2) (.int .i64 t295)) (fun _ hk => hk.2) (.int .i64 t296)) (fun _ hk => hk.2) (.int .u64 t297)) (fun _ hk => hk.2) (.int .i64 t298)) (fun _ hk => hk.2) (.slice Ao67 t299.length co67)) (fun _ h_ => h_.1))) hb); replace BK286 := bf_ BK286 hb; replace BK287 := bf_ BK287 hb; replace BK304 := Aside0.mk (blk_below (g := gb304) (o := .cells #[.int .i64 t292, .int .i64 t293, .int .i64 t294, .int .i64 t295, .int .i64 t296, .int .u64 t297, .int .i64 t298, .slice Ao67 t299.length co67] 29 (0, 0)) (blk_put (cs := #[.int .i64 t292, .int .i64 t293, .int .i64 t294, .int .i64 t295, .int .i64 t296, .int .u64 t297, .int .i64 t298, .slice none 0 0]) (blk_put (cs := #[.int .i64 t292, .int .i64 t293, .int .i64 t294, .int .i64 t295, .int .i64 t296, .int .u64 t297, .int .i64 0, .slice none 0 0]) (blk_put (cs := #[.int .i64 t292, .int .i64 t293, .int .i64 t294, .int .i64 t295, .int .i64 t296, .int .u64 0, .int .i64 0, .slice none 0 0]) (blk_put (cs := #[.int .i64 t292, .int .i64 t293, .int .i64 t294, .int .i64 t295, .int .i64 0, .int .u64 0, .int .i64 0, .slice none 0 0]) (blk_put (cs := #[.int .i64 t292, .int .i64 t293, .int .i64 t294, .int .i64 0, .int .i64 0, .int .u64 0, .int .i64 0, .slice none 0 0]) (blk_put (cs := #[.int .i64 t292, .int .i64 t293, .int .i64 0, .int .i64 0, .int .i64 0, .int .u64 0, .int .i64 0, .slice none 0 0]) (blk_put (cs := #[.int .i64 t292, .int .i64 0, .int .i64 0, .int .i64 0, .int .i64 0, .int .u64 0, .int .i64 0, .slice none 0 0]) (blk_put (cs := #[.int .i64 0, .int .i64 0, .int .i64 0, .int .i64 0, .int .i64 0, .int .u64 0, .int .i64 0, .slice none 0 0]) (bq_ BK304) 0 _ rfl) 1 _ rfl) 2 _ rfl) 3 _ rfl) 4 _ rfl) 5 _ rfl) 6 _ rfl) 7 _ rfl) hb); replace HB := bs_ w hb; clear hb; obtain ⟨hcz70_0, hcz70_1, hcz70_2, hcz70_3, hcz70_4, hcz70_5, hcz70_6, hcz70_7, hfz70_0, hfz70_1, hfz70_2, hfz70_3, hfz70_4, hfz70_5, hfz70_6, hfz70_7⟩ := ce8_ BK304) | (go_at_call 15; (with_reducible refine (lease_Out.calls kj3 t292 t293 t294 t295 t296 t297 t298 _ _ t299 t307 t308 _ ?side1 ?side2 A52.out).mono ?_); (case side1 => exact cr_ HO301); (case side2 => exact (Kd.R_reads' HO301.out).2.1); rintro e w71 ⟨rfl, hb⟩; replace HO301 := rb_ HO301 hb; replace BK286 := bb_ BK286 hb; replace BK287 := bb_ BK287 hb; replace BK304 := bb_ BK304 hb; replace HB := bs_ w hb; clear hb; obtain ⟨hcz72_0, hcz72_1, hcz72_2, hcz72_3, hcz72_4, hcz72_5, hcz72_6, hcz72_7, hfz72_0, hfz72_1, hfz72_2, hfz72_3, hfz72_4, hfz72_5, hfz72_6, hfz72_7⟩ := ce8_ BK304; obtain ⟨hcz73_0, hcz73_1, hcz73_2, hcz73_3, hcz73_4, hcz73_5, hcz73_6, hcz73_7, hfz73_0, hfz73_1, hfz73_2, hfz73_3, hfz73_4, hfz73_5, hfz73_6, hfz73_7⟩ := ce8_ BK286)))
    go_loopg [13] kj3 (fun kq v13 w' => ∃ (x13_2 : Int), v13 = .int .i64 x13_2 ∧ Aside0 (spigotlaw42_LeaseMakes.l0 kq t288 t302 t305 t307 x13_2 a0_0 a0_1 a0_2 a0_3 a0_4 a0_5 a0_6 l0_7 a1_0 a1_1 ji49 a1_3 t292 t293 t294 t295 t296 t297 t298 t299 = some r) ∧ Aside0 (kq ≤ kj3) ∧ Aside0 (Kd.R (Kd.int .i64) 2 w' w.heap.size (fun _ => True) (.slice Ao67 t299.length co67) t299) ∧ Aside0 (w'.heap[gb286]? = some (.cells #[.int .i64 a0_0, .int .i64 a0_1, .int .i64 a0_2, .int .i64 a0_3, .int .i64 a0_4, .int .u64 a0_5, .int .i64 a0_6, (.slice A0_7 l0_7.length c0_7)] 29 (0, 0))) ∧ Aside0 (w'.heap[gb287]? = some (.cells #[.int .u8 a1_0, .int .i64 a1_1, .int .u64 ji49, .int .i64 a1_3] 31 (0, 0))) ∧ Aside0 (w'.heap[gb304]? = some (.cells #[.int .i64 t292, .int .i64 t293, .int .i64 t294, .int .i64 t295, .int .i64 t296, .int .u64 t297, .int .i64 t298, (.slice Ao67 t299.length co67)] 29 (0, 0))) ∧ Aside0 (Below w.heap.size w w'))
    case atStart => exact ⟨(0), rf_, H', ⟨Nat.le_refl _⟩, ⟨rs_ HO301⟩, ⟨bq_ BK286⟩, ⟨bq_ BK287⟩, ⟨bq_ BK304⟩, bw_⟩
    case round =>
     clear H'
     try clear c48
     try clear c53
     try clear c53b0
     try clear c53b1
     try clear c54
     try clear c54b0
     try clear c54b1
     try clear c55
     try clear c55b0
     try clear c55b1
     try clear c56
     try clear c56b0
     try clear c56b1
     try clear c56b2
     try clear c57
     try clear c57b0
     try clear c57b1
     try clear c58
     try clear c58b0
     try clear c58b1
     try clear hcz66_0
     try clear hcz66_1
     try clear hcz66_2
     try clear hcz66_3
     try clear hcz66_4
     try clear hcz66_5
     try clear hcz66_6
     try clear hcz66_7
     try clear hcz68_0
     try clear hcz68_1
     try clear hcz68_2
     try clear hcz68_3
     try clear hcz68_4
     try clear hcz68_5
     try clear hcz68_6
     try clear hcz68_7
     try clear hcz70_0
     try clear hcz70_1
     try clear hcz70_2
     try clear hcz70_3
     try clear hcz70_4
     try clear hcz70_5
     try clear hcz70_6
     try clear hcz70_7
     try clear hcz72_0
     try clear hcz72_1
     try clear hcz72_2
     try clear hcz72_3
     try clear hcz72_4
     try clear hcz72_5
     try clear hcz72_6
     try clear hcz72_7
     try clear hcz73_0
     try clear hcz73_1
     try clear hcz73_2
     try clear hcz73_3
     try clear hcz73_4
     try clear hcz73_5
     try clear hcz73_6
     try clear hcz73_7
     try clear hfz66_0
     try clear hfz66_1
     try clear hfz66_2
     try clear hfz66_3
     try clear hfz66_4
     try clear hfz66_5
     try clear hfz66_6
     try clear hfz66_7
     try clear hfz68_0
     try clear hfz68_1
     try clear hfz68_2
     try clear hfz68_3
     try clear hfz68_4
     try clear hfz68_5
     try clear hfz68_6
     try clear hfz68_7
     try clear hfz70_0
     try clear hfz70_1
     try clear hfz70_2
     try clear hfz70_3
     try clear hfz70_4
     try clear hfz70_5
     try clear hfz70_6
     try clear hfz70_7
     try clear hfz72_0
     try clear hfz72_1
     try clear hfz72_2
     try clear hfz72_3
     try clear hfz72_4
     try clear hfz72_5
     try clear hfz72_6
     try clear hfz72_7
     try clear hfz73_0
     try clear hfz73_1
     try clear hfz73_2
     try clear hfz73_3
     try clear hfz73_4
     try clear hfz73_5
     try clear hfz73_6
     try clear hfz73_7
     obtain ⟨x13_2, rfl, HA, HK2, HO_305007, BK286, BK287, BK304, HB⟩ := hrel
     cases gk with
     | zero => exact absurd HA.out (by simp [spigotlaw42_LeaseMakes.l0])
     | succ k2 =>
      have H := HA.out
      clear HA
      simp only [spigotlaw42_LeaseMakes.l0] at H
      by_cases c74 : x13_2 < (l0_7.length : Int)
      ·rw [if_pos c74] at H
       have c74b0 : decide (x13_2 < (l0_7.length : Int)) = true := decide_eq_true c74
       clear c74
       by_cases c75 : x13_2 = a1_1
       ·rw [if_pos c75] at H
        have c75b0 : (x13_2 == a1_1) = true := beq_iff_eq.mpr c75
        have c75b1 : (x13_2 != a1_1) = false := bne_eq_false_iff_eq.mpr c75
        clear c75
        have H' := Aside0.mk H
        clear H
        replace hn286_287 := NB286_287.out
        replace hn287_286 := NB287_286.out
        replace hn286_304 := NB286_304.out
        replace hn304_286 := NB304_286.out
        replace hc286 := ce8_ BK286
        replace hn287_304 := NB287_304.out
        replace hn304_287 := NB304_287.out
        replace hc287 := ce4_ BK287
        as_aux_lemma =>
         go_wp2
         repeat (go_quiet (fail); try go_wp2)
         go_roundg k2
         case measure => have := HJ3.out; have := HK2.out; omega
         case rel => exact ⟨(wrap64 (x13_2 + 1)), rf_, H', ⟨by have := HJ3.out; have := HK2.out; omega⟩, ⟨rs_ HO_305007⟩, ⟨bq_ BK286⟩, ⟨bq_ BK287⟩, ⟨bq_ BK304⟩, bw_⟩
       ·rw [if_neg c75] at H
        have c75b0 : (x13_2 == a1_1) = false := beq_eq_false_iff_ne.mpr c75
        have c75b1 : (x13_2 != a1_1) = true := bne_iff_ne.mpr c75
        by_cases c81 : 0 ≤ x13_2
        rotate_left
        ·rw [if_neg c81] at H; exact absurd H (by simp)
        rw [if_pos c81] at H
        have c81b0 : decide (0 ≤ x13_2) = true := decide_eq_true c81
        clear c81
        by_cases c82 : x13_2 < (t299.length : Int)
        rotate_left
        ·rw [if_neg c82] at H; exact absurd H (by simp)
        rw [if_pos c82] at H
        have c82b0 : decide (x13_2 < (t299.length : Int)) = true := decide_eq_true c82
        clear c82
        by_cases c83 : (rd t299 x13_2) = (rd l0_7 x13_2)
        rotate_left
        ·rw [if_neg c83] at H; exact absurd H (by simp)
        rw [if_pos c83] at H
        have c83b0 : ((rd t299 x13_2) == (rd l0_7 x13_2)) = true := beq_iff_eq.mpr c83
        have c83b1 : ((rd t299 x13_2) != (rd l0_7 x13_2)) = false := bne_eq_false_iff_eq.mpr c83
        clear c83
        have H' := Aside0.mk H
        clear H
        replace hn286_287 := NB286_287.out
        replace hn287_286 := NB287_286.out
        replace hn286_304 := NB286_304.out
        replace hn304_286 := NB304_286.out
        replace hc286 := ce8_ BK286
        replace hn287_304 := NB287_304.out
        replace hn304_287 := NB304_287.out
        replace hc287 := ce4_ BK287
        replace hc304 := ce8_ BK304
        have p309 : 0 ≤ (x13_2 : Int) := of_decide_eq_true (by first | (with_reducible assumption) | assumption)
        have q309 : x13_2 < (t299.length : Int) := of_decide_eq_true (by first | (with_reducible assumption) | assumption)
        obtain ⟨ad309, e309, hx309_0⟩ := Kd.at_int (Kd.R_reads' HO_305007.out).2.2 x13_2 p309 q309
        cases e309
        replace p309 := eq_true p309
        replace q309 := eq_true q309
        have p310 : 0 ≤ (x13_2 : Int) := of_decide_eq_true (by first | (with_reducible assumption) | assumption)
        have q310 : x13_2 < (l0_7.length : Int) := of_decide_eq_true (by first | (with_reducible assumption) | assumption)
        obtain ⟨ad310, e310, hx310_0⟩ := Kd.at_int HR0_7.out x13_2 p310 q310
        cases e310
        replace hx310_0 := (HB.out.cell (World.block_lt_of_cell? w _ hx310_0)).trans hx310_0
        replace p310 := eq_true p310
        replace q310 := eq_true q310
        as_aux_lemma =>
         go_wp2
         repeat (go_quiet (fail); try go_wp2)
         go_roundg k2
         case measure => have := HJ3.out; have := HK2.out; omega
         case rel => exact ⟨(wrap64 (x13_2 + 1)), rf_, H', ⟨by have := HJ3.out; have := HK2.out; omega⟩, ⟨rs_ HO_305007⟩, ⟨bq_ BK286⟩, ⟨bq_ BK287⟩, ⟨bq_ BK304⟩, bw_⟩
      ·rw [if_neg c74] at H
       have c74b0 : decide (x13_2 < (l0_7.length : Int)) = false := decide_eq_false c74
       clear c74
       by_cases c90 : a1_0 = 1
       ·rw [if_pos c90] at H
        have c90b0 : (a1_0 == 1) = true := beq_iff_eq.mpr c90
        have c90b1 : (a1_0 != 1) = false := bne_eq_false_iff_eq.mpr c90
        clear c90
        by_cases c91 : t288 = true
        ·subst c91
         rw [if_pos rfl] at H
         try dsimp only at H
         by_cases c92 : t302 ≥ 0
         rotate_left
         ·rw [if_neg c92] at H; exact absurd H (by simp)
         rw [if_pos c92] at H
         have c92b0 : decide (0 ≤ t302) = true := decide_eq_true c92
         clear c92
         by_cases c93 : t302 ≤ a0_6
         rotate_left
         ·rw [if_neg c93] at H; exact absurd H (by simp)
         rw [if_pos c93] at H
         have c93b0 : decide (t302 ≤ a0_6) = true := decide_eq_true c93
         clear c93
         by_cases c94 : (wrap64 (t307 + t295)) = (wrap64 (t305 + a0_3))
         rotate_left
         ·rw [if_neg c94] at H; exact absurd H (by simp)
         rw [if_pos c94] at H
         have c94b0 : ((wrap64 (t307 + t295)) == (wrap64 (t305 + a0_3))) = true := beq_iff_eq.mpr c94
         have c94b1 : ((wrap64 (t307 + t295)) != (wrap64 (t305 + a0_3))) = false := bne_eq_false_iff_eq.mpr c94
         clear c94
         obtain rfl := Option.some.inj H
         replace hn286_287 := NB286_287.out
         replace hn287_286 := NB287_286.out
         replace hn286_304 := NB286_304.out
         replace hn304_286 := NB304_286.out
         replace hc286 := ce8_ BK286
         replace hn304_287 := NB304_287.out
         replace hn287_304 := NB287_304.out
         replace hc304 := ce8_ BK304
         replace hc287 := ce4_ BK287
         as_aux_lemma =>
          go_wp2
          repeat (go_quiet (fail); try go_wp2)
          go_ret
          exact ⟨by first | rfl | (simp [errW_none, errW_some] <;> rfl) | (simp only [← hji49]; first | rfl | (simp [errW_none, errW_some] <;> rfl)) | (simp [*, errW_none, errW_some] <;> rfl), by repeat (first | (with_reducible first | exact HB.out | apply below_alloc | apply pw_below_drewN | apply below_drew1 | refine below_set ?_ GE286.out | refine below_set ?_ GE287.out | refine below_set ?_ GE304.out) | exact HB.out)⟩
        ·replace c91 := Bool.eq_false_iff.mpr c91
         subst c91
         replace H : (none) = some r := by rw [if_neg (show ¬ (false = true) by decide)] at H; exact H
         exact absurd H (by simp)
       ·rw [if_neg c90] at H
        have c90b0 : (a1_0 == 1) = false := beq_eq_false_iff_ne.mpr c90
        have c90b1 : (a1_0 != 1) = true := bne_iff_ne.mpr c90
        by_cases c101 : a1_0 = 2
        ·rw [if_pos c101] at H
         have c101b0 : (a1_0 == 2) = true := beq_iff_eq.mpr c101
         have c101b1 : (a1_0 != 2) = false := bne_eq_false_iff_eq.mpr c101
         clear c101
         by_cases c102 : t288 = true
         ·subst c102
          rw [if_pos rfl] at H
          try dsimp only at H
          by_cases c103 : t302 = (-1)
          ·rw [if_pos c103] at H
           have c103b0 : (t302 == (-1)) = true := beq_iff_eq.mpr c103
           have c103b1 : (t302 != (-1)) = false := bne_eq_false_iff_eq.mpr c103
           clear c103
           by_cases c104 : 0 ≤ a1_1
           rotate_left
           ·rw [if_neg c104] at H; exact absurd H (by simp)
           rw [if_pos c104] at H
           have c104b0 : decide (0 ≤ a1_1) = true := decide_eq_true c104
           clear c104
           by_cases c105 : a1_1 < (l0_7.length : Int)
           rotate_left
           ·rw [if_neg c105] at H; exact absurd H (by simp)
           rw [if_pos c105] at H
           have c105b0 : decide (a1_1 < (l0_7.length : Int)) = true := decide_eq_true c105
           clear c105
           by_cases c106 : a1_3 > (rd l0_7 a1_1)
           ·rw [if_pos c106] at H
            have c106b0 : decide ((rd l0_7 a1_1) < a1_3) = true := decide_eq_true c106
            clear c106
            by_cases c107 : (wrap64 (t307 + t295)) = (wrap64 (t305 + a0_3))
            ·rw [if_pos c107] at H
             have c107b0 : ((wrap64 (t307 + t295)) == (wrap64 (t305 + a0_3))) = true := beq_iff_eq.mpr c107
             have c107b1 : ((wrap64 (t307 + t295)) != (wrap64 (t305 + a0_3))) = false := bne_eq_false_iff_eq.mpr c107
             clear c107
             by_cases c108 : t307 = t305
             ·rw [if_pos c108] at H
              have c108b0 : (t307 == t305) = true := beq_iff_eq.mpr c108
              have c108b1 : (t307 != t305) = false := bne_eq_false_iff_eq.mpr c108
              clear c108
              obtain rfl := Option.some.inj H
              replace hn286_287 := NB286_287.out
              replace hn287_286 := NB287_286.out
              replace hn286_304 := NB286_304.out
              replace hn304_286 := NB304_286.out
              replace hc286 := ce8_ BK286
              replace hn304_287 := NB304_287.out
              replace hn287_304 := NB287_304.out
              replace hc304 := ce8_ BK304
              replace hc287 := ce4_ BK287
              have p311 : 0 ≤ (a1_1 : Int) := of_decide_eq_true (by first | (with_reducible assumption) | assumption)
              have q311 : a1_1 < (l0_7.length : Int) := of_decide_eq_true (by first | (with_reducible assumption) | assumption)
              obtain ⟨ad311, e311, hx311_0⟩ := Kd.at_int HR0_7.out a1_1 p311 q311
              cases e311
              replace hx311_0 := (HB.out.cell (World.block_lt_of_cell? w _ hx311_0)).trans hx311_0
              replace p311 := eq_true p311
              replace q311 := eq_true q311
              as_aux_lemma =>
               go_wp2
               repeat (go_quiet (fail); try go_wp2)
               go_ret
               exact ⟨by first | rfl | (simp [errW_none, errW_some] <;> rfl) | (simp only [← hji49]; first | rfl | (simp [errW_none, errW_some] <;> rfl)) | (simp [*, errW_none, errW_some] <;> rfl), by repeat (first | (with_reducible first | exact HB.out | apply below_alloc | apply pw_below_drewN | apply below_drew1 | refine below_set ?_ GE286.out | refine below_set ?_ GE287.out | refine below_set ?_ GE304.out) | exact HB.out)⟩
             ·rw [if_neg c108] at H
              have c108b0 : (t307 == t305) = false := beq_eq_false_iff_ne.mpr c108
              have c108b1 : (t307 != t305) = true := bne_iff_ne.mpr c108
              by_cases c115 : t302 = a1_3
              rotate_left
              ·rw [if_neg c115] at H; exact absurd H (by simp)
              rw [if_pos c115] at H
              have c115b0 : (t302 == a1_3) = true := beq_iff_eq.mpr c115
              have c115b1 : (t302 != a1_3) = false := bne_eq_false_iff_eq.mpr c115
              clear c115
              by_cases c116 : (wrap64 (t307 + t295)) = (wrap64 ((wrap64 (t305 + a0_3)) - t302))
              rotate_left
              ·rw [if_neg c116] at H; exact absurd H (by simp)
              rw [if_pos c116] at H
              have c116b0 : ((wrap64 (t307 + t295)) == (wrap64 ((wrap64 (t305 + a0_3)) - t302))) = true := beq_iff_eq.mpr c116
              have c116b1 : ((wrap64 (t307 + t295)) != (wrap64 ((wrap64 (t305 + a0_3)) - t302))) = false := bne_eq_false_iff_eq.mpr c116
              clear c116
              obtain rfl := Option.some.inj H
              replace hn286_287 := NB286_287.out
              replace hn287_286 := NB287_286.out
              replace hn286_304 := NB286_304.out
              replace hn304_286 := NB304_286.out
              replace hc286 := ce8_ BK286
              replace hn304_287 := NB304_287.out
              replace hn287_304 := NB287_304.out
              replace hc304 := ce8_ BK304
              replace hc287 := ce4_ BK287
              have p311 : 0 ≤ (a1_1 : Int) := of_decide_eq_true (by first | (with_reducible assumption) | assumption)
              have q311 : a1_1 < (l0_7.length : Int) := of_decide_eq_true (by first | (with_reducible assumption) | assumption)
              obtain ⟨ad311, e311, hx311_0⟩ := Kd.at_int HR0_7.out a1_1 p311 q311
              cases e311
              replace hx311_0 := (HB.out.cell (World.block_lt_of_cell? w _ hx311_0)).trans hx311_0
              replace p311 := eq_true p311
              replace q311 := eq_true q311
              as_aux_lemma =>
               go_wp2
               repeat (go_quiet (fail); try go_wp2)
               go_ret
               exact ⟨by first | rfl | (simp [errW_none, errW_some] <;> rfl) | (simp only [← hji49]; first | rfl | (simp [errW_none, errW_some] <;> rfl)) | (simp [*, errW_none, errW_some] <;> rfl), by repeat (first | (with_reducible first | exact HB.out | apply below_alloc | apply pw_below_drewN | apply below_drew1 | refine below_set ?_ GE286.out | refine below_set ?_ GE287.out | refine below_set ?_ GE304.out) | exact HB.out)⟩
            ·rw [if_neg c107] at H
             have c107b0 : ((wrap64 (t307 + t295)) == (wrap64 (t305 + a0_3))) = false := beq_eq_false_iff_ne.mpr c107
             have c107b1 : ((wrap64 (t307 + t295)) != (wrap64 (t305 + a0_3))) = true := bne_iff_ne.mpr c107
             by_cases c123 : t302 = a1_3
             rotate_left
             ·rw [if_neg c123] at H; exact absurd H (by simp)
             rw [if_pos c123] at H
             have c123b0 : (t302 == a1_3) = true := beq_iff_eq.mpr c123
             have c123b1 : (t302 != a1_3) = false := bne_eq_false_iff_eq.mpr c123
             clear c123
             by_cases c124 : (wrap64 (t307 + t295)) = (wrap64 ((wrap64 (t305 + a0_3)) - t302))
             rotate_left
             ·rw [if_neg c124] at H; exact absurd H (by simp)
             rw [if_pos c124] at H
             have c124b0 : ((wrap64 (t307 + t295)) == (wrap64 ((wrap64 (t305 + a0_3)) - t302))) = true := beq_iff_eq.mpr c124
             have c124b1 : ((wrap64 (t307 + t295)) != (wrap64 ((wrap64 (t305 + a0_3)) - t302))) = false := bne_eq_false_iff_eq.mpr c124
             clear c124
             obtain rfl := Option.some.inj H
             replace hn286_287 := NB286_287.out
             replace hn287_286 := NB287_286.out
             replace hn286_304 := NB286_304.out
             replace hn304_286 := NB304_286.out
             replace hc286 := ce8_ BK286
             replace hn304_287 := NB304_287.out
             replace hn287_304 := NB287_304.out
             replace hc304 := ce8_ BK304
             replace hc287 := ce4_ BK287
             have p311 : 0 ≤ (a1_1 : Int) := of_decide_eq_true (by first | (with_reducible assumption) | assumption)
             have q311 : a1_1 < (l0_7.length : Int) := of_decide_eq_true (by first | (with_reducible assumption) | assumption)
             obtain ⟨ad311, e311, hx311_0⟩ := Kd.at_int HR0_7.out a1_1 p311 q311
             cases e311
             replace hx311_0 := (HB.out.cell (World.block_lt_of_cell? w _ hx311_0)).trans hx311_0
             replace p311 := eq_true p311
             replace q311 := eq_true q311
             as_aux_lemma =>
              go_wp2
              repeat (go_quiet (fail); try go_wp2)
              go_ret
              exact ⟨by first | rfl | (simp [errW_none, errW_some] <;> rfl) | (simp only [← hji49]; first | rfl | (simp [errW_none, errW_some] <;> rfl)) | (simp [*, errW_none, errW_some] <;> rfl), by repeat (first | (with_reducible first | exact HB.out | apply below_alloc | apply pw_below_drewN | apply below_drew1 | refine below_set ?_ GE286.out | refine below_set ?_ GE287.out | refine below_set ?_ GE304.out) | exact HB.out)⟩
           ·rw [if_neg c106] at H
            have c106b0 : decide ((rd l0_7 a1_1) < a1_3) = false := decide_eq_false c106
            clear c106
            by_cases c131 : t302 = a1_3
            rotate_left
            ·rw [if_neg c131] at H; exact absurd H (by simp)
            rw [if_pos c131] at H
            have c131b0 : (t302 == a1_3) = true := beq_iff_eq.mpr c131
            have c131b1 : (t302 != a1_3) = false := bne_eq_false_iff_eq.mpr c131
            clear c131
            by_cases c132 : (wrap64 (t307 + t295)) = (wrap64 ((wrap64 (t305 + a0_3)) - t302))
            rotate_left
            ·rw [if_neg c132] at H; exact absurd H (by simp)
            rw [if_pos c132] at H
            have c132b0 : ((wrap64 (t307 + t295)) == (wrap64 ((wrap64 (t305 + a0_3)) - t302))) = true := beq_iff_eq.mpr c132
            have c132b1 : ((wrap64 (t307 + t295)) != (wrap64 ((wrap64 (t305 + a0_3)) - t302))) = false := bne_eq_false_iff_eq.mpr c132
            clear c132
            obtain rfl := Option.some.inj H
            replace hn286_287 := NB286_287.out
            replace hn287_286 := NB287_286.out
            replace hn286_304 := NB286_304.out
            replace hn304_286 := NB304_286.out
            replace hc286 := ce8_ BK286
            replace hn304_287 := NB304_287.out
            replace hn287_304 := NB287_304.out
            replace hc304 := ce8_ BK304
            replace hc287 := ce4_ BK287
            have p311 : 0 ≤ (a1_1 : Int) := of_decide_eq_true (by first | (with_reducible assumption) | assumption)
            have q311 : a1_1 < (l0_7.length : Int) := of_decide_eq_true (by first | (with_reducible assumption) | assumption)
            obtain ⟨ad311, e311, hx311_0⟩ := Kd.at_int HR0_7.out a1_1 p311 q311
            cases e311
            replace hx311_0 := (HB.out.cell (World.block_lt_of_cell? w _ hx311_0)).trans hx311_0
            replace p311 := eq_true p311
            replace q311 := eq_true q311
            as_aux_lemma =>
             go_wp2
             repeat (go_quiet (fail); try go_wp2)
             go_ret
             exact ⟨by first | rfl | (simp [errW_none, errW_some] <;> rfl) | (simp only [← hji49]; first | rfl | (simp [errW_none, errW_some] <;> rfl)) | (simp [*, errW_none, errW_some] <;> rfl), by repeat (first | (with_reducible first | exact HB.out | apply below_alloc | apply pw_below_drewN | apply below_drew1 | refine below_set ?_ GE286.out | refine below_set ?_ GE287.out | refine below_set ?_ GE304.out) | exact HB.out)⟩
          ·rw [if_neg c103] at H
           have c103b0 : (t302 == (-1)) = false := beq_eq_false_iff_ne.mpr c103
           have c103b1 : (t302 != (-1)) = true := bne_iff_ne.mpr c103
           by_cases c139 : t302 = a1_3
           rotate_left
           ·rw [if_neg c139] at H; exact absurd H (by simp)
           rw [if_pos c139] at H
           have c139b0 : (t302 == a1_3) = true := beq_iff_eq.mpr c139
           have c139b1 : (t302 != a1_3) = false := bne_eq_false_iff_eq.mpr c139
           clear c139
           by_cases c140 : (wrap64 (t307 + t295)) = (wrap64 ((wrap64 (t305 + a0_3)) - t302))
           rotate_left
           ·rw [if_neg c140] at H; exact absurd H (by simp)
           rw [if_pos c140] at H
           have c140b0 : ((wrap64 (t307 + t295)) == (wrap64 ((wrap64 (t305 + a0_3)) - t302))) = true := beq_iff_eq.mpr c140
           have c140b1 : ((wrap64 (t307 + t295)) != (wrap64 ((wrap64 (t305 + a0_3)) - t302))) = false := bne_eq_false_iff_eq.mpr c140
           clear c140
           obtain rfl := Option.some.inj H
           replace hn286_287 := NB286_287.out
           replace hn287_286 := NB287_286.out
           replace hn286_304 := NB286_304.out
           replace hn304_286 := NB304_286.out
           replace hc286 := ce8_ BK286
           replace hn304_287 := NB304_287.out
           replace hn287_304 := NB287_304.out
           replace hc304 := ce8_ BK304
           replace hc287 := ce4_ BK287
           as_aux_lemma =>
            go_wp2
            repeat (go_quiet (fail); try go_wp2)
            go_ret
            exact ⟨by first | rfl | (simp [errW_none, errW_some] <;> rfl) | (simp only [← hji49]; first | rfl | (simp [errW_none, errW_some] <;> rfl)) | (simp [*, errW_none, errW_some] <;> rfl), by repeat (first | (with_reducible first | exact HB.out | apply below_alloc | apply pw_below_drewN | apply below_drew1 | refine below_set ?_ GE286.out | refine below_set ?_ GE287.out | refine below_set ?_ GE304.out) | exact HB.out)⟩
         ·replace c102 := Bool.eq_false_iff.mpr c102
          subst c102
          replace H : (none) = some r := by rw [if_neg (show ¬ (false = true) by decide)] at H; exact H
          exact absurd H (by simp)
        ·rw [if_neg c101] at H
         have c101b0 : (a1_0 == 2) = false := beq_eq_false_iff_ne.mpr c101
         have c101b1 : (a1_0 != 2) = true := bne_iff_ne.mpr c101
         by_cases c147 : a1_0 = 3
         ·rw [if_pos c147] at H
          have c147b0 : (a1_0 == 3) = true := beq_iff_eq.mpr c147
          have c147b1 : (a1_0 != 3) = false := bne_eq_false_iff_eq.mpr c147
          clear c147
          by_cases c148 : t288 = true
          ·subst c148
           rw [if_pos rfl] at H
           try dsimp only at H
           by_cases c149 : 0 ≤ a1_1
           rotate_left
           ·rw [if_neg c149] at H; exact absurd H (by simp)
           rw [if_pos c149] at H
           have c149b0 : decide (0 ≤ a1_1) = true := decide_eq_true c149
           clear c149
           by_cases c150 : a1_1 < (l0_7.length : Int)
           rotate_left
           ·rw [if_neg c150] at H; exact absurd H (by simp)
           rw [if_pos c150] at H
           have c150b0 : decide (a1_1 < (l0_7.length : Int)) = true := decide_eq_true c150
           clear c150
           by_cases c151 : t302 = (rd l0_7 a1_1)
           rotate_left
           ·rw [if_neg c151] at H; exact absurd H (by simp)
           rw [if_pos c151] at H
           have c151b0 : (t302 == (rd l0_7 a1_1)) = true := beq_iff_eq.mpr c151
           have c151b1 : (t302 != (rd l0_7 a1_1)) = false := bne_eq_false_iff_eq.mpr c151
           clear c151
           by_cases c152 : t307 = (wrap64 (t305 - t302))
           rotate_left
           ·rw [if_neg c152] at H; exact absurd H (by simp)
           rw [if_pos c152] at H
           have c152b0 : (t307 == (wrap64 (t305 - t302))) = true := beq_iff_eq.mpr c152
           have c152b1 : (t307 != (wrap64 (t305 - t302))) = false := bne_eq_false_iff_eq.mpr c152
           clear c152
           by_cases c153 : (wrap64 (t307 + t295)) ≤ (wrap64 (t305 + a0_3))
           rotate_left
           ·rw [if_neg c153] at H; exact absurd H (by simp)
           rw [if_pos c153] at H
           have c153b0 : decide ((wrap64 (t307 + t295)) ≤ (wrap64 (t305 + a0_3))) = true := decide_eq_true c153
           clear c153
           by_cases c154 : (wrap64 (t307 + t295)) = (wrap64 (t305 + a0_3))
           ·rw [if_pos c154] at H
            have c154b0 : ((wrap64 (t307 + t295)) == (wrap64 (t305 + a0_3))) = true := beq_iff_eq.mpr c154
            have c154b1 : ((wrap64 (t307 + t295)) != (wrap64 (t305 + a0_3))) = false := bne_eq_false_iff_eq.mpr c154
            clear c154
            obtain rfl := Option.some.inj H
            replace hn286_287 := NB286_287.out
            replace hn287_286 := NB287_286.out
            replace hn286_304 := NB286_304.out
            replace hn304_286 := NB304_286.out
            replace hc286 := ce8_ BK286
            replace hn304_287 := NB304_287.out
            replace hn287_304 := NB287_304.out
            replace hc304 := ce8_ BK304
            replace hc287 := ce4_ BK287
            have p312 : 0 ≤ (a1_1 : Int) := of_decide_eq_true (by first | (with_reducible assumption) | assumption)
            have q312 : a1_1 < (l0_7.length : Int) := of_decide_eq_true (by first | (with_reducible assumption) | assumption)
            obtain ⟨ad312, e312, hx312_0⟩ := Kd.at_int HR0_7.out a1_1 p312 q312
            cases e312
            replace hx312_0 := (HB.out.cell (World.block_lt_of_cell? w _ hx312_0)).trans hx312_0
            replace p312 := eq_true p312
            replace q312 := eq_true q312
            as_aux_lemma =>
             go_wp2
             repeat (go_quiet (fail); try go_wp2)
             go_ret
             exact ⟨by first | rfl | (simp [errW_none, errW_some] <;> rfl) | (simp only [← hji49]; first | rfl | (simp [errW_none, errW_some] <;> rfl)) | (simp [*, errW_none, errW_some] <;> rfl), by repeat (first | (with_reducible first | exact HB.out | apply below_alloc | apply pw_below_drewN | apply below_drew1 | refine below_set ?_ GE286.out | refine below_set ?_ GE287.out | refine below_set ?_ GE304.out) | exact HB.out)⟩
           ·rw [if_neg c154] at H
            have c154b0 : ((wrap64 (t307 + t295)) == (wrap64 (t305 + a0_3))) = false := beq_eq_false_iff_ne.mpr c154
            have c154b1 : ((wrap64 (t307 + t295)) != (wrap64 (t305 + a0_3))) = true := bne_iff_ne.mpr c154
            obtain rfl := Option.some.inj H
            replace hn286_287 := NB286_287.out
            replace hn287_286 := NB287_286.out
            replace hn286_304 := NB286_304.out
            replace hn304_286 := NB304_286.out
            replace hc286 := ce8_ BK286
            replace hn304_287 := NB304_287.out
            replace hn287_304 := NB287_304.out
            replace hc304 := ce8_ BK304
            replace hc287 := ce4_ BK287
            have p312 : 0 ≤ (a1_1 : Int) := of_decide_eq_true (by first | (with_reducible assumption) | assumption)
            have q312 : a1_1 < (l0_7.length : Int) := of_decide_eq_true (by first | (with_reducible assumption) | assumption)
            obtain ⟨ad312, e312, hx312_0⟩ := Kd.at_int HR0_7.out a1_1 p312 q312
            cases e312
            replace hx312_0 := (HB.out.cell (World.block_lt_of_cell? w _ hx312_0)).trans hx312_0
            replace p312 := eq_true p312
            replace q312 := eq_true q312
            as_aux_lemma =>
             go_wp2
             repeat (go_quiet (fail); try go_wp2)
             go_ret
             exact ⟨by first | rfl | (simp [errW_none, errW_some] <;> rfl) | (simp only [← hji49]; first | rfl | (simp [errW_none, errW_some] <;> rfl)) | (simp [*, errW_none, errW_some] <;> rfl), by repeat (first | (with_reducible first | exact HB.out | apply below_alloc | apply pw_below_drewN | apply below_drew1 | refine below_set ?_ GE286.out | refine below_set ?_ GE287.out | refine below_set ?_ GE304.out) | exact HB.out)⟩
          ·replace c148 := Bool.eq_false_iff.mpr c148
           subst c148
           replace H : (none) = some r := by rw [if_neg (show ¬ (false = true) by decide)] at H; exact H
           exact absurd H (by simp)
         ·rw [if_neg c147] at H
          have c147b0 : (a1_0 == 3) = false := beq_eq_false_iff_ne.mpr c147
          have c147b1 : (a1_0 != 3) = true := bne_iff_ne.mpr c147
          by_cases c167 : t288 = true
          ·subst c167
           rw [if_pos rfl] at H
           try dsimp only at H
           by_cases c168 : 0 ≤ a1_1
           rotate_left
           ·rw [if_neg c168] at H; exact absurd H (by simp)
           rw [if_pos c168] at H
           have c168b0 : decide (0 ≤ a1_1) = true := decide_eq_true c168
           clear c168
           by_cases c169 : a1_1 < (l0_7.length : Int)
           rotate_left
           ·rw [if_neg c169] at H; exact absurd H (by simp)
           rw [if_pos c169] at H
           have c169b0 : decide (a1_1 < (l0_7.length : Int)) = true := decide_eq_true c169
           clear c169
           by_cases c170 : t302 = (rd l0_7 a1_1)
           rotate_left
           ·rw [if_neg c170] at H; exact absurd H (by simp)
           rw [if_pos c170] at H
           have c170b0 : (t302 == (rd l0_7 a1_1)) = true := beq_iff_eq.mpr c170
           have c170b1 : (t302 != (rd l0_7 a1_1)) = false := bne_eq_false_iff_eq.mpr c170
           clear c170
           by_cases c171 : t307 = (wrap64 (t305 - t302))
           rotate_left
           ·rw [if_neg c171] at H; exact absurd H (by simp)
           rw [if_pos c171] at H
           have c171b0 : (t307 == (wrap64 (t305 - t302))) = true := beq_iff_eq.mpr c171
           have c171b1 : (t307 != (wrap64 (t305 - t302))) = false := bne_eq_false_iff_eq.mpr c171
           clear c171
           obtain rfl := Option.some.inj H
           replace hn286_287 := NB286_287.out
           replace hn287_286 := NB287_286.out
           replace hn286_304 := NB286_304.out
           replace hn304_286 := NB304_286.out
           replace hc286 := ce8_ BK286
           replace hn304_287 := NB304_287.out
           replace hn287_304 := NB287_304.out
           replace hc304 := ce8_ BK304
           replace hc287 := ce4_ BK287
           have p313 : 0 ≤ (a1_1 : Int) := of_decide_eq_true (by first | (with_reducible assumption) | assumption)
           have q313 : a1_1 < (l0_7.length : Int) := of_decide_eq_true (by first | (with_reducible assumption) | assumption)
           obtain ⟨ad313, e313, hx313_0⟩ := Kd.at_int HR0_7.out a1_1 p313 q313
           cases e313
           replace hx313_0 := (HB.out.cell (World.block_lt_of_cell? w _ hx313_0)).trans hx313_0
           replace p313 := eq_true p313
           replace q313 := eq_true q313
           as_aux_lemma =>
            go_wp2
            repeat (go_quiet (fail); try go_wp2)
            go_ret
            exact ⟨by first | rfl | (simp [errW_none, errW_some] <;> rfl) | (simp only [← hji49]; first | rfl | (simp [errW_none, errW_some] <;> rfl)) | (simp [*, errW_none, errW_some] <;> rfl), by repeat (first | (with_reducible first | exact HB.out | apply below_alloc | apply pw_below_drewN | apply below_drew1 | refine below_set ?_ GE286.out | refine below_set ?_ GE287.out | refine below_set ?_ GE304.out) | exact HB.out)⟩
          ·replace c167 := Bool.eq_false_iff.mpr c167
           subst c167
           replace H : (none) = some r := by rw [if_neg (show ¬ (false = true) by decide)] at H; exact H
           exact absurd H (by simp)

end Go.Proofs.Ytbfdpodlnijeoaa.X
