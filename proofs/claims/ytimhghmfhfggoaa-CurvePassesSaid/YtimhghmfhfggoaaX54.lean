-- written by xprint.py, a program of this session over the kit's print
import Derived.Test.YtimhghmfhfggoaaX0
import Derived.Test.YtimhghmfhfggoaaX3
import Derived.Test.YtimhghmfhfggoaaX33
import Derived.Test.YtimhghmfhfggoaaX34
import Derived.Test.YtimhghmfhfggoaaX44
import Derived.Test.YtimhghmfhfggoaaX52
import Derived.Test.YtimhghmfhfggoaaX53
namespace Go.Proofs.Ytimhghmfhfggoaa.X
open Go.RowKit Go.Proofs.YtimhghmfhfggoaaW.PrintWords Go.Proofs.YtimhghmfhfggoaaW.PrintLast Go.Proofs.YtimhghmfhfggoaaW.PrintMore
attribute [local go_sem] max2_int min2_int max_two min_two max_three min_three max_four min_four   -- for this text's walks alone
set_option linter.unusedVariables false
set_option linter.unusedSimpArgs false

def spigotlaw40_CurvePasses.j0 : Nat → List (S49) → List (S62) → List (S62) → Bool → Option (Bool)
  | 0, _, _, _, _ => none
  | k + 1, x0, x1, x2, x22 => if x22 = true then (some true) else ((some (([] : List (S62)) : List (S62))).bind fun y594 => (if y594.length + x1.length < 8796093022208 then ((curve_Pass.f k x0 x1).bind fun bt600 => ((spigotref40_Pass.f k x0 x1).bind fun bt604 => ((curve_Join.f k x1 x2).bind fun bt608 => ((spigotref40_Join.f k x1 x2).bind fun bt612 => ((spigotref40_Same.f k bt600.1 bt604.1).bind fun t616 => (if t616 = true then (if bt600.2 = bt604.2 then ((spigotref40_Same.f k bt608.1 bt612.1).bind fun t617 => (if t617 = true then (if bt608.2 = bt612.2 then ((spigotref40_Same.f k x1 (y594 ++ x1)).bind fun t618 => (some t618)) else (none)) else (none))) else (none)) else (none))))))) else (none)))
def spigotlaw40_CurvePasses.f (k : Nat) (l0 : List (S49)) (l1 : List (S62)) (l2 : List (S62)) : Option (Bool) := (spigotref40_Great.f l0 l1).bind fun t592 => (if t592 = true then (spigotlaw40_CurvePasses.j0 k l0 l1 l2 true) else ((spigotref40_Great.f ([] : List (S49)) l2).bind fun t593 => (spigotlaw40_CurvePasses.j0 k l0 l1 l2 t593)))
set_option maxHeartbeats 8000000 in
set_option maxRecDepth 100000 in
theorem spigotlaw40_CurvePasses.calls (k : Nat) (A0 : Option Addr) (c0 : Nat) (l0 : List (S49)) (A1 : Option Addr) (c1 : Nat) (l1 : List (S62)) (A2 : Option Addr) (c2 : Nat) (l2 : List (S62)) (r : Bool) (w : World) (hr0 : Kd.C k49 w A0 l0.length l0) (hc0 : l0.length ≤ c0) (hr1 : Kd.C k62 w A1 l1.length l1) (hc1 : l1.length ≤ c1) (hr2 : Kd.C k62 w A2 l2.length l2) (hc2 : l2.length ≤ c2) (h : spigotlaw40_CurvePasses.f k l0 l1 l2 = some r) :
  Calls Try.prog 6 #[.slice A0 l0.length c0, .slice A1 l1.length c1, .slice A2 l2.length c2] w fun e w' => e = .returned (.bool r) ∧ Below w.heap.size w w' := by
 have HR0 := Aside0.mk hr0
 have HC0 := Aside0.mk hc0
 clear hr0 hc0
 have HR1 := Aside0.mk hr1
 have HC1 := Aside0.mk hc1
 clear hr1 hc1
 have HR2 := Aside0.mk hr2
 have HC2 := Aside0.mk hc2
 clear hr2 hc2
 have HB := Aside0.mk (Below.refl w.heap.size w)
 have H : ((spigotref40_Great.f l0 l1).bind fun t592 => (if t592 = true then (spigotlaw40_CurvePasses.j0 k l0 l1 l2 true) else ((spigotref40_Great.f ([] : List (S49)) l2).bind fun t593 => (spigotlaw40_CurvePasses.j0 k l0 l1 l2 t593)))) = some r := h
 clear h
 have HC4 := Aside0.mk H
 clear H
 go_enter Try.func6, Try.ntmps6
 go_upto_region 1 with (fail)
 go_cut [22] (fun v22 wc => ∃ (kq : Nat) (x22_3 : Bool), v22 = .bool x22_3 ∧ Aside0 (spigotlaw40_CurvePasses.j0 kq l0 l1 l2 x22_3 = some r) ∧ Aside0 (kq ≤ k) ∧ Aside0 (Below w.heap.size w wc))
 case first =>
  have H := HC4.out
  clear HC4
  have H0_ := bo_ H; clear H; obtain ⟨t592, A5, H⟩ := H0_
  try dsimp only at H
  by_cases c6 : t592 = true
  ·subst c6
   replace H : (spigotlaw40_CurvePasses.j0 k l0 l1 l2 true) = some r := by rw [if_pos rfl] at H; exact H
   have H' := Aside0.mk H
   clear H
   go_wp2_with (first | ((with_reducible refine gate_callee (f := 9) rfl ?_); (try refine ug_ (by rfl) ?_); refine goesA_ (some 18) Try.func9 #[.slice A0 l0.length c0, .slice A1 l1.length c1] ?_; (with_reducible refine (spigotref40_Great.calls _ _ l0 _ _ l1 true _ ?side1 ?side2 ?side3 ?side4 A5.out).mono ?_); (case side1 => exact cs_ HR0 HB); (case side2 => exact HC0.out); (case side3 => exact cs_ HR1 HB); (case side4 => exact HC1.out); rintro e w' ⟨rfl, ⟨nd, rfl⟩⟩; refine ⟨_, rfl, ?_⟩))
   go_meet
   case rel => exact ⟨_, (true), rf_, H', al_, bw_⟩
  ·replace c6 := Bool.eq_false_iff.mpr c6
   subst c6
   rw [if_neg (show ¬ (false = true) by decide)] at H
   try dsimp only at H
   have H0_ := bo_ H; clear H; obtain ⟨t593, A7, H⟩ := H0_
   replace H : (spigotlaw40_CurvePasses.j0 k l0 l1 l2 t593) = some r := H
   have H' := Aside0.mk H
   clear H
   go_wp2_with (first | ((with_reducible refine gate_callee (f := 9) rfl ?_); (try refine ug_ (by rfl) ?_); refine goesA_ (some 18) Try.func9 #[.slice A0 l0.length c0, .slice A1 l1.length c1] ?_; (with_reducible refine (spigotref40_Great.calls _ _ l0 _ _ l1 false _ ?side1 ?side2 ?side3 ?side4 A5.out).mono ?_); (case side1 => exact cs_ HR0 HB); (case side2 => exact HC0.out); (case side3 => exact cs_ HR1 HB); (case side4 => exact HC1.out); rintro e w' ⟨rfl, ⟨nd, rfl⟩⟩; refine ⟨_, rfl, ?_⟩) | (go_at_call 9; (refine (spigotref40_Great.calls _ _ ([] : List (S49)) _ _ l2 t593 _ ?side1 ?side2 ?side3 ?side4 A7.out).mono ?_); (case side1 => exact Kd.C_nil _ _); (case side2 => exact Nat.le_refl _); (case side3 => repeat (first | exact (Kd.C_below HR2.out (hq_ HB)) | (with_reducible refine Kd.C_alloc ?_ _) | (with_reducible refine Kd.C_drewN ?_ _) | (with_reducible refine Kd.C_drew ?_))); (case side4 => exact HC2.out); rintro e w' ⟨rfl, ⟨nd, rfl⟩⟩))
   go_meet
   case rel => exact ⟨_, (t593), rf_, H', al_, bw_⟩
 case rest =>
  clear HC4
  try clear c1
  try clear c2
  obtain ⟨kq, x22_3, rfl, HA, HJ3, HB⟩ := hcut
  cases kq with
  | zero => exact absurd HA.out (by simp [spigotlaw40_CurvePasses.j0])
  | succ kj3 =>
   have H := HA.out
   clear HA
   simp only [spigotlaw40_CurvePasses.j0] at H
   by_cases c8 : x22_3 = true
   ·subst c8
    replace H : (some true) = some r := by rw [if_pos rfl] at H; exact H
    obtain rfl := Option.some.inj H
    go_wp2
    go_ret
    exact fi_
   ·replace c8 := Bool.eq_false_iff.mpr c8
    subst c8
    rw [if_neg (show ¬ (false = true) by decide)] at H
    try dsimp only at H
    obtain ⟨y594, hy594⟩ : ∃ y_ : List (S62), y_ = (([] : List (S62))) := ⟨_, rfl⟩
    replace H : (if y594.length + l1.length < 8796093022208 then ((curve_Pass.f kj3 l0 l1).bind fun bt600 => ((spigotref40_Pass.f kj3 l0 l1).bind fun bt604 => ((curve_Join.f kj3 l1 l2).bind fun bt608 => ((spigotref40_Join.f kj3 l1 l2).bind fun bt612 => ((spigotref40_Same.f kj3 bt600.1 bt604.1).bind fun t616 => (if t616 = true then (if bt600.2 = bt604.2 then ((spigotref40_Same.f kj3 bt608.1 bt612.1).bind fun t617 => (if t617 = true then (if bt608.2 = bt612.2 then ((spigotref40_Same.f kj3 l1 (y594 ++ l1)).bind fun t618 => (some t618)) else (none)) else (none))) else (none)) else (none))))))) else (none)) = some r := by first | (rw [hy594]; with_reducible exact H) | (have H2_ := (Option.bind_some _ _).symm.trans H; rw [hy594]; with_reducible exact H2_) | (have H2_ := (Option.bind_some _ _).symm.trans H; with_reducible exact H2_) | with_reducible exact H | (rw [hy594]; exact H) | exact H
    have Ny594 := Aside0.mk hy594
    clear hy594
    by_cases c9 : y594.length + l1.length < 8796093022208
    rotate_left
    ·rw [if_neg c9] at H; exact absurd H (by simp)
    rw [if_pos c9] at H
    have LMc9 := Aside0.mk c9
    clear c9
    obtain ⟨y597, hy597⟩ : ∃ y_ : List (S62), y_ = (y594 ++ l1) := ⟨_, rfl⟩
    replace H : ((curve_Pass.f kj3 l0 l1).bind fun bt600 => ((spigotref40_Pass.f kj3 l0 l1).bind fun bt604 => ((curve_Join.f kj3 l1 l2).bind fun bt608 => ((spigotref40_Join.f kj3 l1 l2).bind fun bt612 => ((spigotref40_Same.f kj3 bt600.1 bt604.1).bind fun t616 => (if t616 = true then (if bt600.2 = bt604.2 then ((spigotref40_Same.f kj3 bt608.1 bt612.1).bind fun t617 => (if t617 = true then (if bt608.2 = bt612.2 then ((spigotref40_Same.f kj3 l1 y597).bind fun t618 => (some t618)) else (none)) else (none))) else (none)) else (none))))))) = some r := by first | (rw [hy597]; with_reducible exact H) | (have H2_ := (Option.bind_some _ _).symm.trans H; rw [hy597]; with_reducible exact H2_) | (have H2_ := (Option.bind_some _ _).symm.trans H; with_reducible exact H2_) | with_reducible exact H | (rw [hy597]; exact H) | exact H
    have Ny597 := Aside0.mk hy597
    clear hy597
    have H0_ := bo_ H; clear H; obtain ⟨⟨t600, t601⟩, A10, H⟩ := H0_
    try dsimp only at H
    have H0_ := bo_ H; clear H; obtain ⟨⟨t604, t605⟩, A11, H⟩ := H0_
    try dsimp only at H
    have H0_ := bo_ H; clear H; obtain ⟨⟨t608, t611⟩, A12, H⟩ := H0_
    try dsimp only at H
    have H0_ := bo_ H; clear H; obtain ⟨⟨t612, t613⟩, A13, H⟩ := H0_
    try dsimp only at H
    have H0_ := bo_ H; clear H; obtain ⟨t616, A14, H⟩ := H0_
    try dsimp only at H
    by_cases c15 : t616 = true
    ·subst c15
     rw [if_pos rfl] at H
     try dsimp only at H
     replace H := ct_ H; obtain ⟨c16b0, c16b1, H⟩ := H
     have H0_ := bo_ H; clear H; obtain ⟨t617, A17, H⟩ := H0_
     replace H : (if t617 = true then (if t611 = t613 then ((spigotref40_Same.f kj3 l1 y597).bind fun t618 => (some t618)) else (none)) else (none)) = some r := H
     by_cases c18 : t617 = true
     ·subst c18
      rw [if_pos rfl] at H
      try dsimp only at H
      replace H := ct_ H; obtain ⟨c19b0, c19b1, H⟩ := H
      have H0_ := bo_ H; clear H; obtain ⟨t618, A20, H⟩ := H0_
      replace H : (some t618) = some r := H
      obtain rfl := Option.some.inj H
      go_wp2_with (first | ((with_reducible refine gate_dst (N := 23) rfl ?_); (try refine ug_ (by rfl) ?_); refine Kd.R_lit k62 _ 62 ?hg (N := 23) ?hd (xs := ([] : List (S62))) (inner := []) (ok := fun _ => True) (okp := fun _ => True) ?hr ?hp (fun _ hk => hk) trivial (Below.refl _ _) (Nat.le_refl _) (by simp) ?_; (case hd => rfl); (case hg => rfl); (case hr => first | (go_simp; done) | (go_simp; rfl)); (case hp => exact (Reps.none _ _)); intro v595 w21 ho22 hb hg_ hnew_; clear hg_ hnew_; (first | rw [← Ny594.out] at ho22 | (simp only [Int.reduceToNat] at ho22; rw [← Ny594.out] at ho22)); have HO596 := Aside0.mk (Kd.R_lower ho22 (below_size (hq_ HB))); replace HB := bs_ w hb; clear hb ho22) | ((with_reducible refine gate_builtin (b := .append) (xs := #[.tmp 23, .tmp 24]) rfl ?_); (try refine ug_ (by rfl) ?_); at_builtin; refine Kd.R_append_rows k62 (w0 := w) w.heap.size rfl (.tmp 23) (.tmp 24) 23 62 (.agg #[(.int .u64 0), (.int .i64 0)]) 16 rfl Try.underlying23 info62 rfl (by decide) (by omega) v595 y594 l1 _ _ _ (fun _ => True) (fun _ => False) rfl rfl ?aO ?aR (fun _ _ h => h) (fun _ h => h.elim) ?aF ?aB ?aS ?aL ?_; (case aR => exact cs_ HR1 HB); (case aB => exact (hq_ HB)); (case aF => exact (fun _ _ => trivial)); (case aO => exact (rs_ HO596)); (case aS => exact (below_size (hq_ HB))); (case aL => have := LMc9.out; omega); intro v598 w23 ho hb hg hat; rw [← Ny597.out] at ho; have HO599 := Aside0.mk (ho); replace HB := Aside0.mk (hb); clear HO596; clear ho hb hg hat) | ((with_reducible refine gate_callee (f := 21) rfl ?_); (try refine ug_ (by rfl) ?_); refine goesA_ (some 29) Try.func21 #[.slice A0 l0.length c0, .slice A1 l1.length c1] ?_; (with_reducible refine (curve_Pass.calls kj3 _ _ l0 _ _ l1 t600 t601 _ ?side1 ?side2 ?side3 ?side4 A10.out).mono ?_); (case side1 => exact cs_ HR0 HB); (case side2 => exact HC0.out); (case side3 => exact cs_ HR1 HB); (case side4 => exact HC1.out); rintro e w24 ⟨v602, rfl, ho0, hb⟩; refine ⟨_, rfl, ?_⟩; have HO603 := Aside0.mk (Kd.R_lower (Kd.R_new' ho0 (Kd.R_lt (rs_ HO599))) (below_size (hq_ HB))); replace HO599 := Aside0.mk (Kd.R_elder' (rs_ HO599) (Kd.R_base ho0) hb); replace HB := bs_ w hb; (try clear hb); (try clear hb2); (try clear hk); (try clear hi); (try clear ho0)) | ((with_reducible refine gate_callee (f := 24) rfl ?_); (try refine ug_ (by rfl) ?_); refine goesA_ (some 35) Try.func24 #[.slice A0 l0.length c0, .slice A1 l1.length c1] ?_; (with_reducible refine (spigotref40_Pass.calls kj3 _ _ l0 _ _ l1 t604 t605 _ ?side1 ?side2 ?side3 ?side4 A11.out).mono ?_); (case side1 => exact cs_ HR0 HB); (case side2 => exact HC0.out); (case side3 => exact cs_ HR1 HB); (case side4 => exact HC1.out); rintro e w25 ⟨v606, rfl, ho0, hb⟩; refine ⟨_, rfl, ?_⟩; have HO607 := Aside0.mk (Kd.R_lower (Kd.R_new' (Kd.R_new' ho0 (Kd.R_lt (rs_ HO599))) (Kd.R_lt (rs_ HO603))) (below_size (hq_ HB))); replace HO599 := Aside0.mk (Kd.R_elder' (rs_ HO599) (Kd.R_base ho0) hb); replace HO603 := Aside0.mk (Kd.R_elder' (rs_ HO603) (Kd.R_base ho0) hb); replace HB := bs_ w hb; (try clear hb); (try clear hb2); (try clear hk); (try clear hi); (try clear ho0)) | ((with_reducible refine gate_callee (f := 25) rfl ?_); (try refine ug_ (by rfl) ?_); refine goesA_ (some 41) Try.func25 #[.slice A1 l1.length c1, .slice A2 l2.length c2] ?_; (with_reducible refine (curve_Join.calls kj3 (fun k_ => k_ < w.heap.size) _ _ l1 (fun k_ => k_ < w.heap.size) _ _ l2 t608 t611 _ ?side1 ?side2 A12.out).mono ?_); (case side1 => exact Kd.V_mk HC1.out (Kd.F_below (Kd.C_F k62_heap HR1.out) (hq_ HB))); (case side2 => exact Kd.V_mk HC2.out (Kd.F_below (Kd.C_F k62_heap HR2.out) (hq_ HB))); rintro e w26 ⟨v609, rfl, ho0, hb⟩; refine ⟨_, rfl, ?_⟩; have HO610 := Aside0.mk (Kd.R_lower (Kd.R_new' (Kd.R_new' (Kd.R_new' (Kd.R_mono (ok' := fun k_ => True) ho0 (fun _ hk_ => trivial)) (Kd.R_lt (rs_ HO599))) (Kd.R_lt (rs_ HO603))) (Kd.R_lt (rs_ HO607))) (below_size (hq_ HB))); replace HO599 := Aside0.mk (Kd.R_elder' (rs_ HO599) (Kd.R_base ho0) hb); replace HO603 := Aside0.mk (Kd.R_elder' (rs_ HO603) (Kd.R_base ho0) hb); replace HO607 := Aside0.mk (Kd.R_elder' (rs_ HO607) (Kd.R_base ho0) hb); replace HB := bs_ w hb; (try clear hb); (try clear hb2); (try clear hk); (try clear hi); (try clear ho0)) | ((with_reducible refine gate_callee (f := 26) rfl ?_); (try refine ug_ (by rfl) ?_); refine goesA_ (some 47) Try.func26 #[.slice A1 l1.length c1, .slice A2 l2.length c2] ?_; (with_reducible refine (spigotref40_Join.calls kj3 _ _ l1 _ _ l2 t612 t613 _ ?side1 ?side2 ?side3 ?side4 A13.out).mono ?_); (case side1 => exact cs_ HR1 HB); (case side2 => exact HC1.out); (case side3 => exact cs_ HR2 HB); (case side4 => exact HC2.out); rintro e w27 ⟨v614, rfl, ho0, hb⟩; refine ⟨_, rfl, ?_⟩; have HO615 := Aside0.mk (Kd.R_lower (Kd.R_new' (Kd.R_new' (Kd.R_new' (Kd.R_new' ho0 (Kd.R_lt (rs_ HO599))) (Kd.R_lt (rs_ HO603))) (Kd.R_lt (rs_ HO607))) (Kd.R_lt (rs_ HO610))) (below_size (hq_ HB))); replace HO599 := Aside0.mk (Kd.R_elder' (rs_ HO599) (Kd.R_base ho0) hb); replace HO603 := Aside0.mk (Kd.R_elder' (rs_ HO603) (Kd.R_base ho0) hb); replace HO607 := Aside0.mk (Kd.R_elder' (rs_ HO607) (Kd.R_base ho0) hb); replace HO610 := Aside0.mk (Kd.R_elder' (rs_ HO610) (Kd.R_base ho0) hb); replace HB := bs_ w hb; (try clear hb); (try clear hb2); (try clear hk); (try clear hi); (try clear ho0); obtain ⟨Ao28, co28, eo28⟩ := Kd.R_slice HO603.out; subst eo28; obtain ⟨Ao29, co29, eo29⟩ := Kd.R_slice HO607.out; subst eo29) | ((with_reducible refine gate_callee (f := 22) rfl ?_); (try refine ug_ (by rfl) ?_); refine goesA_ (some 52) Try.func22 #[.slice Ao28 t600.length co28, .slice Ao29 t604.length co29] ?_; (with_reducible refine (spigotref40_Same.calls kj3 _ _ t600 _ _ t604 true _ ?side1 ?side2 ?side3 ?side4 A14.out).mono ?_); (case side1 => exact cr_ HO603); (case side2 => exact (Kd.R_reads' HO603.out).2.1); (case side3 => exact cr_ HO607); (case side4 => exact (Kd.R_reads' HO607.out).2.1); rintro e w' ⟨rfl, ⟨nd, rfl⟩⟩; refine ⟨_, rfl, ?_⟩; obtain ⟨Ao30, co30, eo30⟩ := Kd.R_slice HO610.out; subst eo30; obtain ⟨Ao31, co31, eo31⟩ := Kd.R_slice HO615.out; subst eo31) | (go_at_call 22; (with_reducible refine (spigotref40_Same.calls kj3 _ _ t608 _ _ t612 true _ ?side1 ?side2 ?side3 ?side4 A17.out).mono ?_); (case side1 => exact cr_ HO610); (case side2 => exact (Kd.R_reads' HO610.out).2.1); (case side3 => exact cr_ HO615); (case side4 => exact (Kd.R_reads' HO615.out).2.1); rintro e w' ⟨rfl, ⟨nd, rfl⟩⟩; obtain ⟨Ao32, co32, eo32⟩ := Kd.R_slice HO599.out; subst eo32) | (go_at_call 22; (with_reducible refine (spigotref40_Same.calls kj3 _ _ l1 _ _ y597 t618 _ ?side1 ?side2 ?side3 ?side4 A20.out).mono ?_); (case side1 => repeat (first | exact (Kd.C_below HR1.out (hq_ HB)) | (with_reducible refine Kd.C_alloc ?_ _) | (with_reducible refine Kd.C_drewN ?_ _) | (with_reducible refine Kd.C_drew ?_))); (case side2 => exact HC1.out); (case side3 => exact cr_ HO599); (case side4 => exact (Kd.R_reads' HO599.out).2.1); rintro e w' ⟨rfl, ⟨nd, rfl⟩⟩))
      go_ret
      exact fi_
     ·replace c18 := Bool.eq_false_iff.mpr c18
      subst c18
      replace H : (none) = some r := by rw [if_neg (show ¬ (false = true) by decide)] at H; exact H
      exact absurd H (by simp)
    ·replace c15 := Bool.eq_false_iff.mpr c15
     subst c15
     replace H : (none) = some r := by rw [if_neg (show ¬ (false = true) by decide)] at H; exact H
     exact absurd H (by simp)

end Go.Proofs.Ytimhghmfhfggoaa.X
