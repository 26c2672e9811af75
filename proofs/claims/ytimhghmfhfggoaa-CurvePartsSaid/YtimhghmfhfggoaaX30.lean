-- written by xprint.py, a program of this session over the kit's print
import Derived.Test.YtimhghmfhfggoaaX0
import Derived.Test.YtimhghmfhfggoaaX26
import Derived.Test.YtimhghmfhfggoaaX29
namespace Go.Proofs.Ytimhghmfhfggoaa.X
open Go.RowKit Go.Proofs.YtimhghmfhfggoaaW.PrintWords Go.Proofs.YtimhghmfhfggoaaW.PrintLast Go.Proofs.YtimhghmfhfggoaaW.PrintMore
attribute [local go_sem] max2_int min2_int max_two min_two max_three min_three max_four min_four   -- for this text's walks alone
set_option linter.unusedVariables false
set_option linter.unusedSimpArgs false

def bucket_Refill.f (k : Nat) (a0_0 : Int) (a0_1 : Int) (a0_2 : Int) (a0_3 : Int) (a0_4 : Int) (a0_5 : Int) (a1 : Int) : Option (Int × Int × Int × Int × Int × Int × Int) := (bucket_Check.f a0_0 a0_1 a0_2 a0_3 a0_4 a0_5).bind fun t255 => (if t255 = 0 then ((bucket_fill.f k a0_0 a0_1 a0_2 a0_3 a0_4 a0_5 a1).bind fun bt256 => (some (bt256.1, bt256.2.1, bt256.2.2.1, bt256.2.2.2.1, bt256.2.2.2.2.1, bt256.2.2.2.2.2, 0))) else (some (0, 0, 0, 0, 0, 0, t255)))
set_option maxHeartbeats 8000000 in
set_option maxRecDepth 100000 in
theorem bucket_Refill.calls (k : Nat) (a0_0 : Int) (a0_1 : Int) (a0_2 : Int) (a0_3 : Int) (a0_4 : Int) (a0_5 : Int) (a1 : Int) (r1 : Int) (r2 : Int) (r3 : Int) (r4 : Int) (r5 : Int) (r6 : Int) (r7 : Int) (w : World) (h : bucket_Refill.f k a0_0 a0_1 a0_2 a0_3 a0_4 a0_5 a1 = some (r1, r2, r3, r4, r5, r6, r7)) :
  Calls Try.prog 23 #[.agg #[.int .i64 a0_0, .int .i64 a0_1, .int .i64 a0_2, .int .i64 a0_3, .int .i64 a0_4, .int .u64 a0_5], .int .u64 a1] w fun e w' => e = .returned (.tuple #[.agg #[.int .i64 r1, .int .i64 r2, .int .i64 r3, .int .i64 r4, .int .i64 r5, .int .u64 r6], .int .i64 r7]) ∧ Below w.heap.size w w' := by
 have hu51 := Try.underlying51
 have HB := Aside0.mk (Below.refl w.heap.size w)
 have H : ((bucket_Check.f a0_0 a0_1 a0_2 a0_3 a0_4 a0_5).bind fun t255 => (if t255 = 0 then ((bucket_fill.f k a0_0 a0_1 a0_2 a0_3 a0_4 a0_5 a1).bind fun bt256 => (some (bt256.1, bt256.2.1, bt256.2.2.1, bt256.2.2.2.1, bt256.2.2.2.2.1, bt256.2.2.2.2.2, 0))) else (some (0, 0, 0, 0, 0, 0, t255)))) = some (r1, r2, r3, r4, r5, r6, r7) := h
 clear h
 have H0_ := bo_ H; clear H; obtain ⟨t255, A3, H⟩ := H0_
 try dsimp only at H
 by_cases c4 : t255 = 0
 ·rw [if_pos c4] at H
  have c4b0 : (t255 == 0) = true := beq_iff_eq.mpr c4
  have c4b1 : (t255 != 0) = false := bne_eq_false_iff_eq.mpr c4
  clear c4
  have H0_ := bo_ H; clear H; obtain ⟨⟨t256, t257, t258, t259, t260, t261⟩, A5, H⟩ := H0_
  replace H : (some (t256, t257, t258, t259, t260, t261, 0)) = some (r1, r2, r3, r4, r5, r6, r7) := H
  simp only [Option.some.injEq, Prod.mk.injEq] at H
  obtain ⟨rfl, rfl, rfl, rfl, rfl, rfl, rfl⟩ := H
  go_enter Try.func23, Try.ntmps23
  go_wp2_with (first | ((with_reducible refine gate_dst (N := 2) rfl ?_); refine bx_ #[.int .i64 a0_0, .int .i64 a0_1, .int .i64 a0_2, .int .i64 a0_3, .int .i64 a0_4, .int .u64 a0_5] 51 ?_; intro gb253 hg w6 BK253 hb; have GW253 := bz_ w hg; have GE253 := GW253; replace HB := bs_ w hb; clear hb hg) | ((with_reducible refine gate_dst (N := 4) rfl ?_); refine bx_ #[.int .i64 0, .int .i64 0, .int .i64 0, .int .i64 0, .int .i64 0, .int .u64 0] 51 ?_; intro gb254 hg w7 BK254 hb; have GW254 := bz_ w hg; have GE254 := GW254; have NB253_254 := bn_ BK253 hg; have NB254_253 := bm_ BK253 hg; replace BK253 := bb_ BK253 hb; replace HB := bs_ w hb; clear hb hg; replace hn253_254 := NB253_254.out; replace hn254_253 := NB254_253.out; replace hc253 := ce6_ BK253) | ((with_reducible refine gate_callee (f := 41) rfl ?_); refine goesA_ (some 8) Try.func41 #[.agg #[.int .i64 a0_0, .int .i64 a0_1, .int .i64 a0_2, .int .i64 a0_3, .int .i64 a0_4, .int .u64 a0_5]] ?_; (with_reducible refine (bucket_Check.calls a0_0 a0_1 a0_2 a0_3 a0_4 a0_5 t255 _ A3.out).mono ?_); rintro e w10 ⟨rfl, hb⟩; refine ⟨_, rfl, ?_⟩; replace BK253 := bb_ BK253 hb; replace BK254 := bb_ BK254 hb; replace HB := bs_ w hb; clear hb; replace hc253 := ce6_ BK253) | ((with_reducible refine gate_callee (f := 42) rfl ?_); refine goesA_ (some 15) Try.func42 #[.agg #[.int .i64 a0_0, .int .i64 a0_1, .int .i64 a0_2, .int .i64 a0_3, .int .i64 a0_4, .int .u64 a0_5], .int .u64 a1] ?_; (with_reducible refine (bucket_fill.calls k a0_0 a0_1 a0_2 a0_3 a0_4 a0_5 a1 t256 t257 t258 t259 t260 t261 _ A5.out).mono ?_); rintro e w12 ⟨rfl, hb⟩; refine ⟨_, rfl, ?_⟩; replace BK253 := bb_ BK253 hb; replace BK254 := bb_ BK254 hb; replace HB := bs_ w hb; clear hb; replace hc254 := ce6_ BK254))
  refine bodyPost_ret (results_ct rfl _ _ gb254 51 #[.int .i64 t256, .int .i64 t257, .int .i64 t258, .int .i64 t259, .int .i64 t260, .int .u64 t261] (0, 0) _ rfl (bp6_ (bq_ BK254)) Try.underlying51 rfl (by kernel_rfl)) rfl ?_
  exact fi_
 ·rw [if_neg c4] at H
  have c4b0 : (t255 == 0) = false := beq_eq_false_iff_ne.mpr c4
  have c4b1 : (t255 != 0) = true := bne_iff_ne.mpr c4
  simp only [Option.some.injEq, Prod.mk.injEq] at H
  obtain ⟨rfl, rfl, rfl, rfl, rfl, rfl, rfl⟩ := H
  go_enter Try.func23, Try.ntmps23
  go_wp2_with (first | ((with_reducible refine gate_dst (N := 2) rfl ?_); refine bx_ #[.int .i64 a0_0, .int .i64 a0_1, .int .i64 a0_2, .int .i64 a0_3, .int .i64 a0_4, .int .u64 a0_5] 51 ?_; intro gb253 hg w14 BK253 hb; have GW253 := bz_ w hg; have GE253 := GW253; replace HB := bs_ w hb; clear hb hg) | ((with_reducible refine gate_dst (N := 4) rfl ?_); refine bx_ #[.int .i64 0, .int .i64 0, .int .i64 0, .int .i64 0, .int .i64 0, .int .u64 0] 51 ?_; intro gb254 hg w15 BK254 hb; have GW254 := bz_ w hg; have GE254 := GW254; have NB253_254 := bn_ BK253 hg; have NB254_253 := bm_ BK253 hg; replace BK253 := bb_ BK253 hb; replace HB := bs_ w hb; clear hb hg; replace hn253_254 := NB253_254.out; replace hn254_253 := NB254_253.out; replace hc253 := ce6_ BK253) | ((with_reducible refine gate_callee (f := 41) rfl ?_); refine goesA_ (some 8) Try.func41 #[.agg #[.int .i64 a0_0, .int .i64 a0_1, .int .i64 a0_2, .int .i64 a0_3, .int .i64 a0_4, .int .u64 a0_5]] ?_; (with_reducible refine (bucket_Check.calls a0_0 a0_1 a0_2 a0_3 a0_4 a0_5 t255 _ A3.out).mono ?_); rintro e w18 ⟨rfl, hb⟩; refine ⟨_, rfl, ?_⟩; replace BK253 := bb_ BK253 hb; replace BK254 := bb_ BK254 hb; replace HB := bs_ w hb; clear hb; replace hc254 := ce6_ BK254))
  refine bodyPost_ret (results_ct rfl _ _ gb254 51 #[.int .i64 0, .int .i64 0, .int .i64 0, .int .i64 0, .int .i64 0, .int .u64 0] (0, 0) _ rfl (bp6_ (bq_ BK254)) Try.underlying51 rfl (by kernel_rfl)) rfl ?_
  exact fi_

def slices_Clone_api_Bucket.f (l0 : List (S51)) : Option ((List (S51))) := (some (([] : List (S51)) : List (S51))).bind fun y262 => (if y262.length + l0.length < 2932031007402 then (some (y262 ++ l0)) else (none))
theorem eqnil_82 (w : World) (a : Option Addr) (n c n' c' : Nat) : (binOp .eql 77 (.slice a n c) (.slice none n' c')).run Try.prog w = .ok (.bool a.isNone) w := by
  have e : ∀ d, (Op.equalIn (d + 1) 77 (.slice a n c) (.slice none n' c')).run Try.prog w = .ok a.isNone w := fun d => by cases a <;> simp [Op.equalIn, run_underlying Try.underlying77]
  simp only [binOp]
  simp [Op.equal, Op.maxDepth, e 9999]
set_option maxHeartbeats 8000000 in
set_option maxRecDepth 100000 in
theorem slices_Clone_api_Bucket.calls (A0 : Option Addr) (c0 : Nat) (l0 : List (S51)) (r : List (S51)) (w : World) (hr0 : Kd.C k51 w A0 l0.length l0) (hc0 : l0.length ≤ c0) (h : slices_Clone_api_Bucket.f l0 = some r) :
  Calls Try.prog 82 #[.slice A0 l0.length c0] w fun e w' => ∃ v0_ : Value, e = .returned (v0_) ∧ Kd.R k51 51 w' w.heap.size (fun _ => True) v0_ r ∧ Below w.heap.size w w' := by
 have q22 := eqnil_82
 rcases A0 with _ | ad
 · have e0 : l0 = [] := by
     by_cases z : 0 < l0.length
     · obtain ⟨_, g, _⟩ := hr0.2.2 z
       cases g
     · exact List.eq_nil_of_length_eq_zero (by omega)
   subst e0
   have er : r = [] := by
     have g := h
     simp [slices_Clone_api_Bucket.f] at g
     exact g
   subst er
   go_enter Try.func82, Try.ntmps82
   go_wp2
   go_ret
   exact ⟨_, rfl, Kd.R_nil _ _ _ _ _, Below.refl _ _⟩
 have HR0 := Aside0.mk hr0
 have HC0 := Aside0.mk hc0
 clear hr0 hc0
 have HB := Aside0.mk (Below.refl w.heap.size w)
 have H : ((some (([] : List (S51)) : List (S51))).bind fun y262 => (if y262.length + l0.length < 2932031007402 then (some (y262 ++ l0)) else (none))) = some r := h
 clear h
 obtain ⟨y262, hy262⟩ : ∃ y_ : List (S51), y_ = (([] : List (S51))) := ⟨_, rfl⟩
 replace H : (if y262.length + l0.length < 2932031007402 then (some (y262 ++ l0)) else (none)) = some r := by first | (rw [hy262]; with_reducible exact H) | (have H2_ := (Option.bind_some _ _).symm.trans H; rw [hy262]; with_reducible exact H2_) | (have H2_ := (Option.bind_some _ _).symm.trans H; with_reducible exact H2_) | with_reducible exact H | (rw [hy262]; exact H) | exact H
 have Ny262 := Aside0.mk hy262
 clear hy262
 by_cases c2 : y262.length + l0.length < 2932031007402
 rotate_left
 ·rw [if_neg c2] at H; exact absurd H (by simp)
 rw [if_pos c2] at H
 have LMc2 := Aside0.mk c2
 clear c2
 obtain ⟨y265, hy265⟩ : ∃ y_ : List (S51), y_ = (y262 ++ l0) := ⟨_, rfl⟩
 replace H : (some y265) = some r := by first | (rw [hy265]; with_reducible exact H) | (have H2_ := (Option.bind_some _ _).symm.trans H; rw [hy265]; with_reducible exact H2_) | (have H2_ := (Option.bind_some _ _).symm.trans H; with_reducible exact H2_) | with_reducible exact H | (rw [hy265]; exact H) | exact H
 have Ny265 := Aside0.mk hy265
 clear hy265
 obtain rfl := Option.some.inj H
 go_enter Try.func82, Try.ntmps82
 go_wp2_with (first | ((with_reducible refine gate_dst (N := 5) rfl ?_); refine Kd.R_lit k51 _ 51 ?hg (N := 5) ?hd (xs := ([] : List (S51))) (inner := []) (ok := fun _ => True) (okp := fun _ => True) ?hr ?hp (fun _ hk => hk) trivial (Below.refl _ _) (Nat.le_refl _) (by simp) ?_; (case hd => rfl); (case hg => rfl); (case hr => first | (go_simp; done) | (go_simp; rfl)); (case hp => exact (Reps.none _ _)); intro v263 w3 ho4 hb hg_ hnew_; clear hg_ hnew_; (first | rw [← Ny262.out] at ho4 | (simp only [Int.reduceToNat] at ho4; rw [← Ny262.out] at ho4)); have HO264 := Aside0.mk (Kd.R_lower ho4 (below_size (hq_ HB))); replace HB := bs_ w hb; clear hb ho4) | ((with_reducible refine gate_builtin (b := .append) (xs := #[.tmp 5, .tmp 6]) rfl ?_); at_builtin; refine Kd.R_append_rows k51 (w0 := w) w.heap.size rfl (.tmp 5) (.tmp 6) 77 51 (.agg #[(.int .i64 0), (.int .i64 0), (.int .i64 0), (.int .i64 0), (.int .i64 0), (.int .u64 0)]) 48 rfl Try.underlying77 info51 rfl (by decide) (by omega) v263 y262 l0 _ _ _ (fun _ => True) (fun _ => False) rfl rfl ?aO ?aR (fun _ _ h => h) (fun _ h => h.elim) ?aF ?aB ?aS ?aL ?_; (case aR => exact cs_ HR0 HB); (case aB => exact (hq_ HB)); (case aF => exact (fun _ _ => trivial)); (case aO => exact (rs_ HO264)); (case aS => exact (below_size (hq_ HB))); (case aL => have := LMc2.out; omega); intro v266 w5 ho hb hg hat; rw [← Ny265.out] at ho; have HO267 := Aside0.mk (ho); replace HB := Aside0.mk (hb); clear HO264; clear ho hb hg hat))
 go_ret
 exact ⟨_, by first | rfl | (simp [errW_none, errW_some] <;> rfl) | (simp [*, errW_none, errW_some] <;> rfl), by (with_reducible repeat (first | apply Kd.R_alloc | apply Kd.R_drewN | apply Kd.R_drew)); exact HO267.out, by repeat (first | (with_reducible first | exact HB.out | apply below_alloc | apply pw_below_drewN | apply below_drew1) | exact HB.out)⟩

def levels_fill.l0 : Nat → Int → List (S51) → Int → Int → Option ((List (S51)))
  | 0, _, _, _, _ => none
  | k + 1, x1, x5, x10, x11 => if x11 < x10 then (if 0 ≤ x11 then (if x11 < (x5.length : Int) then ((bucket_Refill.f k ((rd_T51 x5 x11).f0.f0) ((rd_T51 x5 x11).f0.f1) ((rd_T51 x5 x11).f0.f2) ((rd_T51 x5 x11).f1) ((rd_T51 x5 x11).f2) ((rd_T51 x5 x11).f3) x1).bind fun bt272 => (levels_fill.l0 k x1 (x5.set (x11 : Int).toNat (⟨(⟨bt272.1, bt272.2.1, bt272.2.2.1⟩ : S49), bt272.2.2.2.1, bt272.2.2.2.2.1, bt272.2.2.2.2.2.1⟩ : S51)) x10 (wrap64 (x11 + 1)))) else (none)) else (none)) else (some x5)
def levels_fill.f (k : Nat) (l0 : List (S51)) (a1 : Int) : Option ((List (S51))) := (slices_Clone_api_Bucket.f l0).bind fun t268 => (levels_fill.l0 k a1 t268 (t268.length : Int) 0)
set_option maxHeartbeats 8000000 in
set_option maxRecDepth 100000 in
theorem levels_fill.calls (k : Nat) (A0 : Option Addr) (c0 : Nat) (l0 : List (S51)) (a1 : Int) (r : List (S51)) (w : World) (hr0 : Kd.C k51 w A0 l0.length l0) (hc0 : l0.length ≤ c0) (h : levels_fill.f k l0 a1 = some r) :
  Calls Try.prog 71 #[.slice A0 l0.length c0, .int .u64 a1] w fun e w' => ∃ v0_ : Value, e = .returned (v0_) ∧ Kd.R k51 51 w' w.heap.size (fun _ => True) v0_ r ∧ Below w.heap.size w w' := by
 have hu51 := Try.underlying51
 have HR0 := Aside0.mk hr0
 have HC0 := Aside0.mk hc0
 clear hr0 hc0
 have HB := Aside0.mk (Below.refl w.heap.size w)
 have H : ((slices_Clone_api_Bucket.f l0).bind fun t268 => (levels_fill.l0 k a1 t268 (t268.length : Int) 0)) = some r := h
 clear h
 have H0_ := bo_ H; clear H; obtain ⟨t268, A3, H⟩ := H0_
 replace H : (levels_fill.l0 k a1 t268 (t268.length : Int) 0) = some r := H
 have H' := Aside0.mk H
 clear H
 go_enter Try.func71, Try.ntmps71
 go_wp2_with (first | ((with_reducible refine gate_callee (f := 82) rfl ?_); refine goesA_ (some 8) Try.func82 #[.slice A0 l0.length c0] ?_; (with_reducible refine (slices_Clone_api_Bucket.calls _ _ l0 t268 _ ?side1 ?side2 A3.out).mono ?_); (case side1 => exact ch_ HR0); (case side2 => exact HC0.out); rintro e w4 ⟨v269, rfl, ho0, hb⟩; refine ⟨_, rfl, ?_⟩; have HO270 := Aside0.mk (Kd.R_lower ho0 (below_size (hq_ HB))); replace HB := bs_ w hb; clear hb; (try clear ho0); obtain ⟨Ao5, co5, eo5⟩ := Kd.R_slice HO270.out; subst eo5))
 (try simp only [Act.put, List.setIfInBounds_toArray, List.set_cons_zero, List.set_cons_succ])
 go_loopg [11] k (fun kq v11 w' => ∃ (x5_1 : List (S51)) (x11_1 : Int), v11 = .int .i64 x11_1 ∧ Aside0 (levels_fill.l0 kq a1 x5_1 (t268.length : Int) x11_1 = some r) ∧ Aside0 (kq ≤ k) ∧ Aside0 (Kd.R k51 51 w' w.heap.size (fun _ => True) (.slice Ao5 t268.length co5) x5_1) ∧ Aside0 (Below w.heap.size w w'))
 case atStart => exact ⟨(t268), (0), rf_, H', ⟨Nat.le_refl _⟩, ⟨rs_ HO270⟩, bw_⟩
 case round =>
  clear H'
  obtain ⟨x5_1, x11_1, rfl, HA, HK1, HO_5, HB⟩ := hrel
  have hl5_1 := (Kd.R_reads' HO_5.out).1
  rw [hl5_1] at HO_5
  (try simp only [hl5_1])
  cases gk with
  | zero => exact absurd HA.out (by simp [levels_fill.l0])
  | succ k1 =>
   have H := HA.out
   clear HA
   simp only [levels_fill.l0] at H
   by_cases c6 : x11_1 < (t268.length : Int)
   ·rw [if_pos c6] at H
    have c6b0 : decide (x11_1 < (t268.length : Int)) = true := decide_eq_true c6
    clear c6
    by_cases c7 : 0 ≤ x11_1
    rotate_left
    ·rw [if_neg c7] at H; exact absurd H (by simp)
    rw [if_pos c7] at H
    have c7b0 : decide (0 ≤ x11_1) = true := decide_eq_true c7
    clear c7
    by_cases c8 : x11_1 < (x5_1.length : Int)
    rotate_left
    ·rw [if_neg c8] at H; exact absurd H (by simp)
    rw [if_pos c8] at H
    have c8b0 : decide (x11_1 < (x5_1.length : Int)) = true := decide_eq_true c8
    clear c8
    have H0_ := bo_ H; clear H; obtain ⟨⟨t272, t273, t274, t275, t276, t277, t278⟩, A9, H⟩ := H0_
    replace H : (levels_fill.l0 k1 a1 (x5_1.set (x11_1 : Int).toNat (⟨(⟨t272, t273, t274⟩ : S49), t275, t276, t277⟩ : S51)) (t268.length : Int) (wrap64 (x11_1 + 1))) = some r := H
    obtain ⟨y279, hy279⟩ : ∃ y_ : List (S51), y_ = (x5_1.set (x11_1 : Int).toNat (⟨(⟨t272, t273, t274⟩ : S49), t275, t276, t277⟩ : S51)) := ⟨_, rfl⟩
    replace H : (levels_fill.l0 k1 a1 y279 (t268.length : Int) (wrap64 (x11_1 + 1))) = some r := by first | (rw [hy279]; with_reducible exact H) | (have H2_ := (Option.bind_some _ _).symm.trans H; rw [hy279]; with_reducible exact H2_) | (have H2_ := (Option.bind_some _ _).symm.trans H; with_reducible exact H2_) | with_reducible exact H | (rw [hy279]; exact H) | exact H
    have Ny279 := Aside0.mk hy279
    clear hy279
    have H' := Aside0.mk H
    clear H
    have p271 : 0 ≤ (x11_1 : Int) := of_decide_eq_true (by first | (with_reducible assumption) | assumption)
    have q271 : x11_1 < (x5_1.length : Int) := of_decide_eq_true (by first | (with_reducible assumption) | assumption)
    obtain ⟨ad271, e271, hx271_0, hx271_1, hx271_2, hx271_3, hx271_4, hx271_5⟩ := at_T51 (Kd.R_reads' HO_5.out).2.2 x11_1 p271 q271
    cases e271
    replace p271 := eq_true p271
    replace q271 := eq_true q271
    go_wp2_with (first | ((with_reducible refine gate_callee (f := 23) rfl ?_); refine goesA_ (some 22) Try.func23 #[.agg #[.int .i64 ((rd_T51 x5_1 x11_1).f0.f0), .int .i64 ((rd_T51 x5_1 x11_1).f0.f1), .int .i64 ((rd_T51 x5_1 x11_1).f0.f2), .int .i64 ((rd_T51 x5_1 x11_1).f1), .int .i64 ((rd_T51 x5_1 x11_1).f2), .int .u64 ((rd_T51 x5_1 x11_1).f3)], .int .u64 a1] ?_; (with_reducible refine (bucket_Refill.calls k1 ((rd_T51 x5_1 x11_1).f0.f0) ((rd_T51 x5_1 x11_1).f0.f1) ((rd_T51 x5_1 x11_1).f0.f2) ((rd_T51 x5_1 x11_1).f1) ((rd_T51 x5_1 x11_1).f2) ((rd_T51 x5_1 x11_1).f3) a1 t272 t273 t274 t275 t276 t277 t278 _ A9.out).mono ?_); rintro e w11 ⟨rfl, hb⟩; refine ⟨_, rfl, ?_⟩; replace HO_5 := rb_ HO_5 hb; replace HB := bs_ w hb; clear hb; have p10 : 0 ≤ (x11_1 : Int) := of_decide_eq_true (by first | (with_reducible assumption) | assumption); have q10 : (x11_1 : Int) < ((x5_1.length : Int) : Int) := of_decide_eq_true (by first | (with_reducible assumption) | assumption); obtain ⟨go10, co10, eo10, gb10, gl10, cl10, HG10⟩ := Kd.R_form HO_5.out (by omega); (first | cases eo10 | (injection eo10 with ea_ en_ ec_; (first | subst ea_ | (injection ea_ with ea_; subst ea_)); subst ec_; clear en_)); have GB10 := Aside0.mk gb10; have GG10 := Aside0.mk HG10; clear gb10 gl10 HG10; (first | simp only [add_plain] at hx271_0 | skip); (first | simp only [add_plain] at hx271_1 | skip); (first | simp only [add_plain] at hx271_2 | skip); (first | simp only [add_plain] at hx271_3 | skip); (first | simp only [add_plain] at hx271_4 | skip); (first | simp only [add_plain] at hx271_5 | skip); obtain ⟨ce10, hcl10, hM10, hcc10, hfr10⟩ := Kd.R_elem HO_5.out z51 (x11_1 : Int) p10 q10; obtain rfl := k51_openM hM10; have hx10_0 : w11.cell? ⟨go10, (x11_1 : Int).toNat * 6, none⟩ = some (.int .i64 ((rd_T51 x5_1 x11_1).f0.f0)) := hcc10 0 _ rfl; have hx10_1 : w11.cell? ⟨go10, (x11_1 : Int).toNat * 6 + 1, none⟩ = some (.int .i64 ((rd_T51 x5_1 x11_1).f0.f1)) := hcc10 1 _ rfl; have hx10_2 : w11.cell? ⟨go10, (x11_1 : Int).toNat * 6 + 2, none⟩ = some (.int .i64 ((rd_T51 x5_1 x11_1).f0.f2)) := hcc10 2 _ rfl; have hx10_3 : w11.cell? ⟨go10, (x11_1 : Int).toNat * 6 + 3, none⟩ = some (.int .i64 ((rd_T51 x5_1 x11_1).f1)) := hcc10 3 _ rfl; have hx10_4 : w11.cell? ⟨go10, (x11_1 : Int).toNat * 6 + 4, none⟩ = some (.int .i64 ((rd_T51 x5_1 x11_1).f2)) := hcc10 4 _ rfl; have hx10_5 : w11.cell? ⟨go10, (x11_1 : Int).toNat * 6 + 5, none⟩ = some (.int .u64 ((rd_T51 x5_1 x11_1).f3)) := hcc10 5 _ rfl; have hf10_0 : w11.frozen? ⟨go10, (x11_1 : Int).toNat * 6, none⟩ = false := hfr10 0; have hf10_1 : w11.frozen? ⟨go10, (x11_1 : Int).toNat * 6 + 1, none⟩ = false := hfr10 1; have hf10_2 : w11.frozen? ⟨go10, (x11_1 : Int).toNat * 6 + 2, none⟩ = false := hfr10 2; have hf10_3 : w11.frozen? ⟨go10, (x11_1 : Int).toNat * 6 + 3, none⟩ = false := hfr10 3; have hf10_4 : w11.frozen? ⟨go10, (x11_1 : Int).toNat * 6 + 4, none⟩ = false := hfr10 4; have hf10_5 : w11.frozen? ⟨go10, (x11_1 : Int).toNat * 6 + 5, none⟩ = false := hfr10 5; clear hcl10 hcc10 hfr10 hM10; replace p10 := eq_true p10; replace q10 := eq_true q10; have HX12 := Aside0.mk (show Kd.R k51 51 w11 w.heap.size (fun _ => True) (.slice (some ⟨go10, 0, none⟩) x5_1.length co5) x5_1 from (rs_ HO_5)); obtain ⟨ce12, hcl12, hM12, hcc12, hfr12⟩ := Kd.R_elem HX12.out z51 (x11_1 : Int) (of_decide_eq_true (by first | (with_reducible assumption) | assumption)) (by have h_ : (x11_1 : Int) < ((x5_1.length : Int) : Int) := of_decide_eq_true (by first | (with_reducible assumption) | assumption); first | exact h_ | (have e_ := (Kd.R_reads' HO_5.out).1; omega) | simpa using h_); obtain rfl := k51_openM hM12; have HP12 := Kd.R_seg HX12.out (x11_1 : Int) (of_decide_eq_true (by first | (with_reducible assumption) | assumption)) (by have h_ : (x11_1 : Int) < ((x5_1.length : Int) : Int) := of_decide_eq_true (by first | (with_reducible assumption) | assumption); first | exact h_ | (have e_ := (Kd.R_reads' HO_5.out).1; omega) | simpa using h_) (seg := [.int .i64 t272, .int .i64 t273, .int .i64 t274, .int .i64 t275, .int .i64 t276, .int .u64 t277]) (j := 0) hcl12 hcc12 (show 6 ≤ 6 from by decide) (x' := (⟨(⟨t272, t273, t274⟩ : S49), t275, t276, t277⟩ : S51)) (k51_mkM _ _ _ (⟨(⟨t272, t273, t274⟩ : S49), t275, t276, t277⟩ : S51) ) (fun _ hk => hk); have hx12_0 := hcc12 0 _ rfl; (try simp only [show (k51).sz = 6 from rfl, Nat.mul_one, Nat.add_zero] at hx12_0); have hf12_0 := hfr12 0; (try simp only [show (k51).sz = 6 from rfl, Nat.mul_one, Nat.add_zero] at hf12_0); have hx12_1 := hcc12 1 _ rfl; (try simp only [show (k51).sz = 6 from rfl, Nat.mul_one, Nat.add_zero] at hx12_1); have hf12_1 := hfr12 1; (try simp only [show (k51).sz = 6 from rfl, Nat.mul_one, Nat.add_zero] at hf12_1); have hx12_2 := hcc12 2 _ rfl; (try simp only [show (k51).sz = 6 from rfl, Nat.mul_one, Nat.add_zero] at hx12_2); have hf12_2 := hfr12 2; (try simp only [show (k51).sz = 6 from rfl, Nat.mul_one, Nat.add_zero] at hf12_2); have hx12_3 := hcc12 3 _ rfl; (try simp only [show (k51).sz = 6 from rfl, Nat.mul_one, Nat.add_zero] at hx12_3); have hf12_3 := hfr12 3; (try simp only [show (k51).sz = 6 from rfl, Nat.mul_one, Nat.add_zero] at hf12_3); have hx12_4 := hcc12 4 _ rfl; (try simp only [show (k51).sz = 6 from rfl, Nat.mul_one, Nat.add_zero] at hx12_4); have hf12_4 := hfr12 4; (try simp only [show (k51).sz = 6 from rfl, Nat.mul_one, Nat.add_zero] at hf12_4); have hx12_5 := hcc12 5 _ rfl; (try simp only [show (k51).sz = 6 from rfl, Nat.mul_one, Nat.add_zero] at hx12_5); have hf12_5 := hfr12 5; (try simp only [show (k51).sz = 6 from rfl, Nat.mul_one, Nat.add_zero] at hf12_5); clear hcl12 hcc12 hfr12 hM12) | ((with_reducible refine gate_store (t := 51) (p := 25) rfl ?_); refine store_event (t := 51) (p := 25) (v := ?vo_w13) (w1 := ((((((w11.setCell ⟨go10, (x11_1 : Int).toNat * 6, none⟩ (.int .i64 t272)).setCell ⟨go10, (x11_1 : Int).toNat * 6 + 1, none⟩ (.int .i64 t273)).setCell ⟨go10, (x11_1 : Int).toNat * 6 + 2, none⟩ (.int .i64 t274)).setCell ⟨go10, (x11_1 : Int).toNat * 6 + 3, none⟩ (.int .i64 t275)).setCell ⟨go10, (x11_1 : Int).toNat * 6 + 4, none⟩ (.int .i64 t276)).setCell ⟨go10, (x11_1 : Int).toNat * 6 + 5, none⟩ (.int .u64 t277))) ?hg ?ho ?hn ?hr ?_; (case ho => rfl); (case hg => rfl); (case hn => rfl); (case hr => first | (go_simp; done) | (go_simp; rfl)); intro w13 hw; have hg : w11.grownBy w13 (some go10) := (by rw [hw]; exact HP12.2); have hp_ : Kd.R k51 51 w13 w.heap.size (fun _ => True) (.slice (some ⟨go10, 0, none⟩) x5_1.length co5) y279 := (by rw [hw, Ny279.out]; exact HP12.1); clear HP12; replace HO_5 := Aside0.mk (hp_); replace HB := Aside0.mk ((by rw [hw]; exact below_set (below_set (below_set (below_set (below_set (below_set (HB.out) GB10.out) GB10.out) GB10.out) GB10.out) GB10.out) GB10.out : Below w.heap.size w w13)); clear hg hw hp_))
    (try simp only [← hl5_1])
    go_roundg k1
    case measure => have := HK1.out; omega
    case rel => exact ⟨(y279), (wrap64 (x11_1 + 1)), rf_, H', ⟨by have := HK1.out; omega⟩, ⟨by (try simp only [hl5_1]); (with_reducible repeat (first | apply Kd.R_alloc | apply Kd.R_drewN | apply Kd.R_drew)); exact HO_5.out⟩, bw_⟩
   ·rw [if_neg c6] at H
    have c6b0 : decide (x11_1 < (t268.length : Int)) = false := decide_eq_false c6
    (try rw [hl5_1] at c6b0)
    clear c6
    obtain rfl := Option.some.inj H
    go_wp2
    go_ret
    exact ⟨_, by first | rfl | (simp [errW_none, errW_some] <;> rfl) | (simp [*, errW_none, errW_some] <;> rfl), by (with_reducible repeat (first | apply Kd.R_alloc | apply Kd.R_drewN | apply Kd.R_drew)); exact HO_5.out, by repeat (first | (with_reducible first | exact HB.out | apply below_alloc | apply pw_below_drewN | apply below_drew1) | exact HB.out)⟩

-- NOT PRINTED: function 89 (slices_IndexFunc_api_Bucket)

-- NOT PRINTED: function 83 (slices_ContainsFunc_api_Bucket)

end Go.Proofs.Ytimhghmfhfggoaa.X
