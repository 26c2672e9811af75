-- written by xprint.py, a program of this session over the kit's print
import Derived.Test.YtcdmjdghmbdikaaX0
import Derived.Test.YtcdmjdghmbdikaaX3
import Derived.Test.YtcdmjdghmbdikaaX15
import Derived.Test.YtcdmjdghmbdikaaX16
import Derived.Test.YtcdmjdghmbdikaaX17
import Derived.Test.YtcdmjdghmbdikaaX18
namespace Go.Proofs.Ytcdmjdghmbdikaa.X
open Go.RowKit Go.Proofs.YtcdmjdghmbdikaaW.PrintWords Go.Proofs.YtcdmjdghmbdikaaW.PrintLast Go.Proofs.YtcdmjdghmbdikaaW.PrintMore
attribute [local go_sem] max2_int min2_int max_two min_two max_three min_three max_four min_four   -- for this text's walks alone
set_option linter.unusedVariables false
set_option linter.unusedSimpArgs false

attribute [local go_sem high] eqA74
/-! ### spigotref21_Share: function 19 -/
def spigotref21_Share.l0 : Nat → Int → Int → Int → Int → Int → Int → Int → Int → Int → Int → Int → Int → Int → Int → Option (Int × Int)
  | 0, _, _, _, _, _, _, _, _, _, _, _, _, _, _ => none
  | k + 1, x8, x9, x214000, x214001, x214002, x214003, x214004, x214005, x233000, x233001, x233002, x233003, x233004, x233005 => if x9 > 0 then ((spigotref21_Made.f (IntKind.u64.wrap (x8 + x9))).bind fun bt233 => ((spigotref21_Times.f x214000 x214001 x214002 x214003 x214004 x214005 bt233.1 bt233.2.1 bt233.2.2.1 bt233.2.2.2.1 bt233.2.2.2.2.1 bt233.2.2.2.2.2).bind fun bt239 => ((spigotref21_AtMost.f bt239.1 bt239.2.1 bt239.2.2.1 bt239.2.2.2.1 bt239.2.2.2.2.1 bt239.2.2.2.2.2 x233000 x233001 x233002 x233003 x233004 x233005).bind fun t245 => (if t245 = true then (spigotref21_Share.l0 k (IntKind.u64.wrap (x8 + x9)) (IntKind.u64.wrap (Int.tdiv x9 2)) x214000 x214001 x214002 x214003 x214004 x214005 x233000 x233001 x233002 x233003 x233004 x233005) else (spigotref21_Share.l0 k x8 (IntKind.u64.wrap (Int.tdiv x9 2)) x214000 x214001 x214002 x214003 x214004 x214005 x233000 x233001 x233002 x233003 x233004 x233005))))) else (some (x8, 0))
def spigotref21_Share.f (k : Nat) (a0_0 : Int) (a0_1 : Int) (a0_2 : Int) (a1 : Int) : Option (Int × Int) := (spigotref21_Made.f a0_0).bind fun bt195 => ((spigotref21_Made.f a0_1).bind fun bt201 => ((spigotref21_Plus.f bt195.1 bt195.2.1 bt195.2.2.1 bt195.2.2.2.1 bt195.2.2.2.2.1 bt195.2.2.2.2.2 bt201.1 bt201.2.1 bt201.2.2.1 bt201.2.2.2.1 bt201.2.2.2.2.1 bt201.2.2.2.2.2).bind fun bt207 => (if (bt207.1 == 0 && (bt207.2.1 == 0 && (bt207.2.2.1 == 0 && (bt207.2.2.2.1 == 0 && (bt207.2.2.2.2.1 == 0 && (bt207.2.2.2.2.2 == 0)))))) = true then (some (a1, 0)) else ((spigotref21_Made.f a0_0).bind fun bt214 => ((spigotref21_Made.f a1).bind fun bt220 => ((spigotref21_Times.f bt214.1 bt214.2.1 bt214.2.2.1 bt214.2.2.2.1 bt214.2.2.2.2.1 bt214.2.2.2.2.2 bt220.1 bt220.2.1 bt220.2.2.1 bt220.2.2.2.1 bt220.2.2.2.2.1 bt220.2.2.2.2.2).bind fun bt226 => (spigotref21_Share.l0 k 0 9223372036854775808 bt207.1 bt207.2.1 bt207.2.2.1 bt207.2.2.2.1 bt207.2.2.2.2.1 bt207.2.2.2.2.2 bt226.1 bt226.2.1 bt226.2.2.1 bt226.2.2.2.1 bt226.2.2.2.2.1 bt226.2.2.2.2.2)))))))
theorem spigotref21_Share.mono_l : ∀ k, (∀ y0 y1 y2 y3 y4 y5 y6 y7 y8 y9 y10 y11 y12 y13, LeO (spigotref21_Share.l0 k y0 y1 y2 y3 y4 y5 y6 y7 y8 y9 y10 y11 y12 y13) (spigotref21_Share.l0 (k + 1) y0 y1 y2 y3 y4 y5 y6 y7 y8 y9 y10 y11 y12 y13))
  | 0 => fun _ _ _ _ _ _ _ _ _ _ _ _ _ _ r h => by simp [spigotref21_Share.l0] at h
  | k + 1 => by
    have ih0 := spigotref21_Share.mono_l k
    · intro y0 y1 y2 y3 y4 y5 y6 y7 y8 y9 y10 y11 y12 y13
      unfold spigotref21_Share.l0
      repeat' first
      | (with_reducible exact ih0 _ _ _ _ _ _ _ _ _ _ _ _ _ _)
      | (with_reducible exact LeO.refl _)
      | (with_reducible exact LeO.none _)
      | (with_reducible refine LeO.ite ?_ ?_)
      | (with_reducible refine LeO.bind ?_ (fun _ => ?_))
      | exact ih0 _ _ _ _ _ _ _ _ _ _ _ _ _ _
      | exact LeO.none _
      | refine LeO.ite ?_ ?_
      | refine LeO.bind ?_ (fun _ => ?_)
theorem spigotref21_Share.mono : ∀ a0 a1 a2 a3 k, LeO (spigotref21_Share.f k a0 a1 a2 a3) (spigotref21_Share.f (k + 1) a0 a1 a2 a3) := by
  intro a0 a1 a2 a3 k
  have ih0 := spigotref21_Share.mono_l k
  unfold spigotref21_Share.f
  repeat' first
      | (with_reducible exact ih0 _ _ _ _ _ _ _ _ _ _ _ _ _ _)
      | (with_reducible exact LeO.refl _)
      | (with_reducible exact LeO.none _)
      | (with_reducible refine LeO.ite ?_ ?_)
      | (with_reducible refine LeO.bind ?_ (fun _ => ?_))
      | exact ih0 _ _ _ _ _ _ _ _ _ _ _ _ _ _
      | exact LeO.none _
      | refine LeO.ite ?_ ?_
      | refine LeO.bind ?_ (fun _ => ?_)
def spigotref21_Share.T1 : Bool × List (List Nat × List Nat) := (true, [([], []), ([0], [0]), ([1], [1]), ([], []), ([3], [3]), ([4, 2], [4]), ([2, 5, 5], [2, 5]), ([], []), ([7, 6, 6, 0, 1, 2, 3, 4, 5, 6, 7], [6, 7])])
def spigotref21_Share.B1 : List Nat := [0, 1, 3, 0, 8, 31, 63, 0, 255]
theorem spigotref21_Share.tab1 : rtab .any (opsOf Try.f19 1) = spigotref21_Share.T1 := by kernel_rfl
theorem spigotref21_Share.bits1 : waitsOk spigotref21_Share.T1.2 spigotref21_Share.B1 = true := by kernel_rfl
def spigotref21_Share.T9 : Bool × List (List Nat × List Nat) := (true, [([], []), ([], []), ([], []), ([1, 2], [1, 2]), ([3], [3]), ([0, 4, 4], [0, 4]), ([], []), ([5, 6, 5], [5, 6])])
def spigotref21_Share.B9 : List Nat := [0, 0, 0, 6, 14, 31, 0, 127]
theorem spigotref21_Share.tab9 : rtab .any (opsOf Try.f19 9) = spigotref21_Share.T9 := by kernel_rfl
theorem spigotref21_Share.bits9 : waitsOk spigotref21_Share.T9.2 spigotref21_Share.B9 = true := by kernel_rfl
set_option maxHeartbeats 8000000 in
set_option maxRecDepth 100000 in
theorem spigotref21_Share.calls (k : Nat) (a0_0 : Int) (a0_1 : Int) (a0_2 : Int) (a1 : Int) (r1 : Int) (r2 : Int) (w : World) (h : spigotref21_Share.f k a0_0 a0_1 a0_2 a1 = some (r1, r2)) :
  Calls Try.prog 19 #[.agg #[.int .u64 a0_0, .int .u64 a0_1, .int .u64 a0_2], .int .u64 a1] w fun e w' => e = .returned (.tuple #[.int .u64 r1, .int .i64 r2]) ∧ Below w.heap.size w w' := by
 have hu25 := Try.underlying25
 have hu74 := Try.underlying74
 have HB := Aside0.mk (Below.refl w.heap.size w)
 have H : ((spigotref21_Made.f a0_0).bind fun bt195 => ((spigotref21_Made.f a0_1).bind fun bt201 => ((spigotref21_Plus.f bt195.1 bt195.2.1 bt195.2.2.1 bt195.2.2.2.1 bt195.2.2.2.2.1 bt195.2.2.2.2.2 bt201.1 bt201.2.1 bt201.2.2.1 bt201.2.2.2.1 bt201.2.2.2.2.1 bt201.2.2.2.2.2).bind fun bt207 => (if (bt207.1 == 0 && (bt207.2.1 == 0 && (bt207.2.2.1 == 0 && (bt207.2.2.2.1 == 0 && (bt207.2.2.2.2.1 == 0 && (bt207.2.2.2.2.2 == 0)))))) = true then (some (a1, 0)) else ((spigotref21_Made.f a0_0).bind fun bt214 => ((spigotref21_Made.f a1).bind fun bt220 => ((spigotref21_Times.f bt214.1 bt214.2.1 bt214.2.2.1 bt214.2.2.2.1 bt214.2.2.2.2.1 bt214.2.2.2.2.2 bt220.1 bt220.2.1 bt220.2.2.1 bt220.2.2.2.1 bt220.2.2.2.2.1 bt220.2.2.2.2.2).bind fun bt226 => (spigotref21_Share.l0 k 0 9223372036854775808 bt207.1 bt207.2.1 bt207.2.2.1 bt207.2.2.2.1 bt207.2.2.2.2.1 bt207.2.2.2.2.2 bt226.1 bt226.2.1 bt226.2.2.1 bt226.2.2.2.1 bt226.2.2.2.2.1 bt226.2.2.2.2.2)))))))) = some (r1, r2) := h
 clear h
 have H0_ := bo_ H; clear H; obtain ⟨⟨t195, t196, t197, t198, t199, t200⟩, A3, H⟩ := H0_
 try dsimp only at H
 have H0_ := bo_ H; clear H; obtain ⟨⟨t201, t202, t203, t204, t205, t206⟩, A4, H⟩ := H0_
 try dsimp only at H
 have H0_ := bo_ H; clear H; obtain ⟨⟨t207, t208, t209, t210, t211, t212⟩, A5, H⟩ := H0_
 try dsimp only at H
 by_cases c6 : (t207 == 0 && (t208 == 0 && (t209 == 0 && (t210 == 0 && (t211 == 0 && (t212 == 0)))))) = true
 ·rw [if_pos c6] at H
  have c6b0 : (t207 == 0 && (t208 == 0 && (t209 == 0 && (t210 == 0 && (t211 == 0 && (t212 == 0)))))) = true := c6
  (try (have c6b1 : decide (t207 = 0 && (t208 == 0 && (t209 == 0 && (t210 == 0 && (t211 == 0 && (t212 == 0)))))) = true := by simpa using c6))
  (try (have c6b2 : (t207 == 0 && (t208 == 0 && (t209 == 0 && (t210 == 0 && (t211 == 0 && (t212 == 0)))))) = true := by simpa using c6))
  clear c6
  simp only [Option.some.injEq, Prod.mk.injEq] at H
  obtain ⟨rfl, rfl⟩ := H
  go_enter Try.func19, Try.ntmps19
  try go_wp2_with (first | ((with_reducible refine gate_dst (N := 2) rfl ?_); refine bx_ #[.int .u64 a0_0, .int .u64 a0_1, .int .u64 a0_2] 25 ?_; intro gb194 hg w7 BK194 hb; have GW194 := bz_ w hg; have GE194 := GW194; replace HB := bs_ w hb; clear hb hg))
  replace BK194 := Aside0.mk (blk_drew BK194.out)
  replace HB := Aside0.mk (below_drew1 HB.out)
  refine start_ (n := 9) (S := fun w' => w'.cell? ⟨gb194, 0, none⟩ = some (.int .u64 a0_0) ∧ w'.cell? ⟨gb194, 1, none⟩ = some (.int .u64 a0_1) ∧ w'.cell? ⟨gb194, 2, none⟩ = some (.int .u64 a0_2)) (ds := []) (bl_ 9 0) (by kernel_rfl) rfl (by kernel_rfl) (cc3_ BK194) (fun hHeld => ?_); refine with_tabW spigotref21_Share.tab1 spigotref21_Share.bits1 (fun HT_ HW_ => ?_)
  generalize w7.drew = w8 at BK194 HB hHeld ⊢
  refine pa_ 0 (some 10) (bl_ 9 1) HT_ ?_
  refine pa_ 3 (some 13) (bl_ 9 9) HT_ ?_
  refine ta_ 1 (some 11) (bl_ 9 11) HT_ HW_ hHeld ?_
  refine ta_ 4 (some 14) (bl_ 9 27) HT_ HW_ hHeld ?_
  refine join_ (σ := Nat) 1 (bl_ 9 255) (fun s_ => [(12, .agg #[.int .u64 t195, .int .u64 t196, .int .u64 t197, .int .u64 t198, .int .u64 t199, .int .u64 t200]), (15, .agg #[.int .u64 t201, .int .u64 t202, .int .u64 t203, .int .u64 t204, .int .u64 t205, .int .u64 t206]), (16, .agg #[.int .u64 t207, .int .u64 t208, .int .u64 t209, .int .u64 t210, .int .u64 t211, .int .u64 t212]), (6, .pointer (some ⟨s_, 0, none⟩))]) (fun s_ w' => (w'.cell? ⟨gb194, 0, none⟩ = some (.int .u64 a0_0) ∧ w'.cell? ⟨gb194, 1, none⟩ = some (.int .u64 a0_1) ∧ w'.cell? ⟨gb194, 2, none⟩ = some (.int .u64 a0_2)) ∧ (w'.heap[gb194]? = some (.cells #[.int .u64 a0_0, .int .u64 a0_1, .int .u64 a0_2] 25 (0, 0))) ∧ (w'.heap[s_]? = some (.cells #[.int .u64 0, .int .u64 0, .int .u64 0, .int .u64 0, .int .u64 0, .int .u64 0] 74 (0, 0))) ∧ (w.heap.size ≤ s_) ∧ (w.heap.size ≤ s_) ∧ (gb194 ≠ s_) ∧ (s_ ≠ gb194) ∧ (Below w.heap.size w w')) ?_ ?_
  rotate_left
  ·intro hCont
   refine tw_ 2 7 (some 12) (some 6) (bl_ 9 31) (bl_ 9 155) HT_ (fun K hK => ?_) fun K hK => ?_
   ·refine goesB_ Try.func46 #[.int .u64 a0_0] ?_
    with_reducible refine (spigotref21_Made.calls a0_0 t195 t196 t197 t198 t199 t200 _ A3.out).mono ?_
    rintro e w9 ⟨rfl, hb⟩
    refine ⟨_, rfl, ?_⟩
    replace BK194 := bb_ BK194 hb
    replace HB := bs_ w hb
    clear hb
    refine hK.out _ _ (cc3_ BK194) (fun hHeld => ?_)
    clear hK K
    refine nm_ (some 12) ?_
    refine tw_ 5 7 (some 15) (some 6) (bl_ 9 63) (bl_ 9 159) HT_ (fun K hK => ?_) fun K hK => ?_
    ·refine goesB_ Try.func46 #[.int .u64 a0_1] ?_
     with_reducible refine (spigotref21_Made.calls a0_1 t201 t202 t203 t204 t205 t206 _ A4.out).mono ?_
     rintro e w10 ⟨rfl, hb⟩
     refine ⟨_, rfl, ?_⟩
     replace BK194 := bb_ BK194 hb
     replace HB := bs_ w hb
     clear hb
     refine hK.out _ _ (cc3_ BK194) (fun hHeld => ?_)
     clear hK K
     refine nm_ (some 15) ?_
     refine tw_ 6 7 (some 16) (some 6) (bl_ 9 127) (bl_ 9 191) HT_ (fun K hK => ?_) fun K hK => ?_
     ·refine goesB_ Try.func45 #[.agg #[.int .u64 t195, .int .u64 t196, .int .u64 t197, .int .u64 t198, .int .u64 t199, .int .u64 t200], .agg #[.int .u64 t201, .int .u64 t202, .int .u64 t203, .int .u64 t204, .int .u64 t205, .int .u64 t206]] ?_
      with_reducible refine (spigotref21_Plus.calls t195 t196 t197 t198 t199 t200 t201 t202 t203 t204 t205 t206 t207 t208 t209 t210 t211 t212 _ A5.out).mono ?_
      rintro e w11 ⟨rfl, hb⟩
      refine ⟨_, rfl, ?_⟩
      replace BK194 := bb_ BK194 hb
      replace HB := bs_ w hb
      clear hb
      refine hK.out _ _ (cc3_ BK194) (fun hHeld => ?_)
      clear hK K
      refine nm_ (some 16) ?_
      refine oa_ 7 (some 6) (bl_ 9 255) HT_ fun K hK => ?_
      refine bs2_ #[.int .u64 0, .int .u64 0, .int .u64 0, .int .u64 0, .int .u64 0, .int .u64 0] 74 ?_
      intro gb213 hg w12 BK213 hb
      have GW213 := bz_ w hg
      have GE213 := GW213
      have NB194_213 := bn_ BK194 hg
      have NB213_194 := bm_ BK194 hg
      replace BK194 := bb_ BK194 hb
      replace HB := bs_ w hb
      clear hb hg
      refine hK.out _ _ (cc3_ BK194) (fun hHeld => ?_)
      clear hK K
      refine nm_ (some 6) ?_
      exact no_ (hCont (gb213) _ ⟨hHeld, (bq_ BK194), (bq_ BK213), GW213.out, GE213.out, NB194_213.out, NB213_194.out, bh_⟩)
     ·refine bs2_ #[.int .u64 0, .int .u64 0, .int .u64 0, .int .u64 0, .int .u64 0, .int .u64 0] 74 ?_
      intro gb213 hg w11 BK213 hb
      have GW213 := bz_ w hg
      have GE213 := GW213
      have NB194_213 := bn_ BK194 hg
      have NB213_194 := bm_ BK194 hg
      replace BK194 := bb_ BK194 hb
      replace HB := bs_ w hb
      clear hb hg
      refine hK.out _ _ (cc3_ BK194) (fun hHeld => ?_)
      clear hK K
      refine nm_ (some 6) ?_
      refine oa_ 6 (some 16) (bl_ 9 255) HT_ fun K hK => ?_
      refine goesB_ Try.func45 #[.agg #[.int .u64 t195, .int .u64 t196, .int .u64 t197, .int .u64 t198, .int .u64 t199, .int .u64 t200], .agg #[.int .u64 t201, .int .u64 t202, .int .u64 t203, .int .u64 t204, .int .u64 t205, .int .u64 t206]] ?_
      with_reducible refine (spigotref21_Plus.calls t195 t196 t197 t198 t199 t200 t201 t202 t203 t204 t205 t206 t207 t208 t209 t210 t211 t212 _ A5.out).mono ?_
      rintro e w12 ⟨rfl, hb⟩
      refine ⟨_, rfl, ?_⟩
      replace BK194 := bb_ BK194 hb
      replace BK213 := bb_ BK213 hb
      replace HB := bs_ w hb
      clear hb
      refine hK.out _ _ (cc3_ BK194) (fun hHeld => ?_)
      clear hK K
      refine nm_ (some 16) ?_
      exact no_ (hCont (gb213) _ ⟨hHeld, (bq_ BK194), (bq_ BK213), GW213.out, GE213.out, NB194_213.out, NB213_194.out, bh_⟩)
    ·refine bs2_ #[.int .u64 0, .int .u64 0, .int .u64 0, .int .u64 0, .int .u64 0, .int .u64 0] 74 ?_
     intro gb213 hg w10 BK213 hb
     have GW213 := bz_ w hg
     have GE213 := GW213
     have NB194_213 := bn_ BK194 hg
     have NB213_194 := bm_ BK194 hg
     replace BK194 := bb_ BK194 hb
     replace HB := bs_ w hb
     clear hb hg
     refine hK.out _ _ (cc3_ BK194) (fun hHeld => ?_)
     clear hK K
     refine nm_ (some 6) ?_
     refine oa_ 5 (some 15) (bl_ 9 191) HT_ fun K hK => ?_
     refine goesB_ Try.func46 #[.int .u64 a0_1] ?_
     with_reducible refine (spigotref21_Made.calls a0_1 t201 t202 t203 t204 t205 t206 _ A4.out).mono ?_
     rintro e w11 ⟨rfl, hb⟩
     refine ⟨_, rfl, ?_⟩
     replace BK194 := bb_ BK194 hb
     replace BK213 := bb_ BK213 hb
     replace HB := bs_ w hb
     clear hb
     refine hK.out _ _ (cc3_ BK194) (fun hHeld => ?_)
     clear hK K
     refine nm_ (some 15) ?_
     refine oa_ 6 (some 16) (bl_ 9 255) HT_ fun K hK => ?_
     refine goesB_ Try.func45 #[.agg #[.int .u64 t195, .int .u64 t196, .int .u64 t197, .int .u64 t198, .int .u64 t199, .int .u64 t200], .agg #[.int .u64 t201, .int .u64 t202, .int .u64 t203, .int .u64 t204, .int .u64 t205, .int .u64 t206]] ?_
     with_reducible refine (spigotref21_Plus.calls t195 t196 t197 t198 t199 t200 t201 t202 t203 t204 t205 t206 t207 t208 t209 t210 t211 t212 _ A5.out).mono ?_
     rintro e w12 ⟨rfl, hb⟩
     refine ⟨_, rfl, ?_⟩
     replace BK194 := bb_ BK194 hb
     replace BK213 := bb_ BK213 hb
     replace HB := bs_ w hb
     clear hb
     refine hK.out _ _ (cc3_ BK194) (fun hHeld => ?_)
     clear hK K
     refine nm_ (some 16) ?_
     exact no_ (hCont (gb213) _ ⟨hHeld, (bq_ BK194), (bq_ BK213), GW213.out, GE213.out, NB194_213.out, NB213_194.out, bh_⟩)
   ·refine bs2_ #[.int .u64 0, .int .u64 0, .int .u64 0, .int .u64 0, .int .u64 0, .int .u64 0] 74 ?_
    intro gb213 hg w9 BK213 hb
    have GW213 := bz_ w hg
    have GE213 := GW213
    have NB194_213 := bn_ BK194 hg
    have NB213_194 := bm_ BK194 hg
    replace BK194 := bb_ BK194 hb
    replace HB := bs_ w hb
    clear hb hg
    refine hK.out _ _ (cc3_ BK194) (fun hHeld => ?_)
    clear hK K
    refine nm_ (some 6) ?_
    refine oa_ 2 (some 12) (bl_ 9 159) HT_ fun K hK => ?_
    refine goesB_ Try.func46 #[.int .u64 a0_0] ?_
    with_reducible refine (spigotref21_Made.calls a0_0 t195 t196 t197 t198 t199 t200 _ A3.out).mono ?_
    rintro e w10 ⟨rfl, hb⟩
    refine ⟨_, rfl, ?_⟩
    replace BK194 := bb_ BK194 hb
    replace BK213 := bb_ BK213 hb
    replace HB := bs_ w hb
    clear hb
    refine hK.out _ _ (cc3_ BK194) (fun hHeld => ?_)
    clear hK K
    refine nm_ (some 12) ?_
    refine oa_ 5 (some 15) (bl_ 9 191) HT_ fun K hK => ?_
    refine goesB_ Try.func46 #[.int .u64 a0_1] ?_
    with_reducible refine (spigotref21_Made.calls a0_1 t201 t202 t203 t204 t205 t206 _ A4.out).mono ?_
    rintro e w11 ⟨rfl, hb⟩
    refine ⟨_, rfl, ?_⟩
    replace BK194 := bb_ BK194 hb
    replace BK213 := bb_ BK213 hb
    replace HB := bs_ w hb
    clear hb
    refine hK.out _ _ (cc3_ BK194) (fun hHeld => ?_)
    clear hK K
    refine nm_ (some 15) ?_
    refine oa_ 6 (some 16) (bl_ 9 255) HT_ fun K hK => ?_
    refine goesB_ Try.func45 #[.agg #[.int .u64 t195, .int .u64 t196, .int .u64 t197, .int .u64 t198, .int .u64 t199, .int .u64 t200], .agg #[.int .u64 t201, .int .u64 t202, .int .u64 t203, .int .u64 t204, .int .u64 t205, .int .u64 t206]] ?_
    with_reducible refine (spigotref21_Plus.calls t195 t196 t197 t198 t199 t200 t201 t202 t203 t204 t205 t206 t207 t208 t209 t210 t211 t212 _ A5.out).mono ?_
    rintro e w12 ⟨rfl, hb⟩
    refine ⟨_, rfl, ?_⟩
    replace BK194 := bb_ BK194 hb
    replace BK213 := bb_ BK213 hb
    replace HB := bs_ w hb
    clear hb
    refine hK.out _ _ (cc3_ BK194) (fun hHeld => ?_)
    clear hK K
    refine nm_ (some 16) ?_
    exact no_ (hCont (gb213) _ ⟨hHeld, (bq_ BK194), (bq_ BK213), GW213.out, GE213.out, NB194_213.out, NB213_194.out, bh_⟩)
  rintro gb213 w13 ⟨hS_, h0_, h1_, h2_, h3_, h4_, h5_, h6_⟩
  have BK213 := Aside0.mk h1_
  have GW213 := Aside0.mk h2_
  have GE213 := Aside0.mk h3_
  have NB194_213 := Aside0.mk h4_
  have NB213_194 := Aside0.mk h5_
  replace BK194 := Aside0.mk h0_
  replace HB := Aside0.mk h6_
  clear h0_ h1_ h2_ h3_ h4_ h5_ h6_
  have hHeld := hS_
  refine nq_ ?_
  refine oa_ 8 none (bl_ 9 511) HT_ fun K hK => ?_
  have hs14 : w13.cell? ⟨gb213, 0, none⟩ = some (.int .u64 0) := (blk_cell BK213.out 0).trans rfl
  have hfs14 := blk_frozen BK213.out 0
  have hns14_0 := NB194_213.out
  have hms14_0 := NB213_194.out
  have hs15 : w13.cell? ⟨gb213, 1, none⟩ = some (.int .u64 0) := (blk_cell BK213.out 1).trans rfl
  have hfs15 := blk_frozen BK213.out 1
  have hns15_0 := NB194_213.out
  have hms15_0 := NB213_194.out
  have hs16 : w13.cell? ⟨gb213, 2, none⟩ = some (.int .u64 0) := (blk_cell BK213.out 2).trans rfl
  have hfs16 := blk_frozen BK213.out 2
  have hns16_0 := NB194_213.out
  have hms16_0 := NB213_194.out
  have hs17 : w13.cell? ⟨gb213, 3, none⟩ = some (.int .u64 0) := (blk_cell BK213.out 3).trans rfl
  have hfs17 := blk_frozen BK213.out 3
  have hns17_0 := NB194_213.out
  have hms17_0 := NB213_194.out
  have hs18 : w13.cell? ⟨gb213, 4, none⟩ = some (.int .u64 0) := (blk_cell BK213.out 4).trans rfl
  have hfs18 := blk_frozen BK213.out 4
  have hns18_0 := NB194_213.out
  have hms18_0 := NB213_194.out
  have hs19 : w13.cell? ⟨gb213, 5, none⟩ = some (.int .u64 0) := (blk_cell BK213.out 5).trans rfl
  have hfs19 := blk_frozen BK213.out 5
  have hns19_0 := NB194_213.out
  have hms19_0 := NB213_194.out
  refine sk_ ?_
  refine hK.out _ _ (cf3_ hHeld) (fun hHeld => ?_)
  clear hK K
  refine done_ (done_of HT_.out (by kernel_rfl)) ?_
  replace hn213_194 := NB213_194.out
  replace hn194_213 := NB194_213.out
  replace hc213 := ce6_ BK213
  try go_wp2
  go_ret2
  exact fi_
 ·rw [if_neg c6] at H
  have c6b0 : (t207 == 0 && (t208 == 0 && (t209 == 0 && (t210 == 0 && (t211 == 0 && (t212 == 0)))))) = false := by simpa using c6
  (try (have c6b1 : decide (t207 = 0 && (t208 == 0 && (t209 == 0 && (t210 == 0 && (t211 == 0 && (t212 == 0)))))) = false := by simpa using c6))
  (try (have c6b2 : (t207 == 0 && (t208 == 0 && (t209 == 0 && (t210 == 0 && (t211 == 0 && (t212 == 0)))))) = false := by simpa using c6))
  (try (have c6b3 : ¬ (t207 = 0 && (t208 == 0 && (t209 == 0 && (t210 == 0 && (t211 == 0 && (t212 == 0)))))) := by simpa using c6))
  clear c6
  have H0_ := bo_ H; clear H; obtain ⟨⟨t214, t215, t216, t217, t218, t219⟩, A22, H⟩ := H0_
  try dsimp only at H
  have H0_ := bo_ H; clear H; obtain ⟨⟨t220, t221, t222, t223, t224, t225⟩, A23, H⟩ := H0_
  try dsimp only at H
  have H0_ := bo_ H; clear H; obtain ⟨⟨t226, t227, t228, t229, t230, t231⟩, A24, H⟩ := H0_
  replace H : (spigotref21_Share.l0 k 0 9223372036854775808 t207 t208 t209 t210 t211 t212 t226 t227 t228 t229 t230 t231) = some (r1, r2) := H
  have H' := Aside0.mk H
  clear H
  go_enter Try.func19, Try.ntmps19
  try go_wp2_with (first | ((with_reducible refine gate_dst (N := 2) rfl ?_); refine bx_ #[.int .u64 a0_0, .int .u64 a0_1, .int .u64 a0_2] 25 ?_; intro gb194 hg w25 BK194 hb; have GW194 := bz_ w hg; have GE194 := GW194; replace HB := bs_ w hb; clear hb hg))
  replace BK194 := Aside0.mk (blk_drew BK194.out)
  replace HB := Aside0.mk (below_drew1 HB.out)
  refine start_ (n := 9) (S := fun w' => w'.cell? ⟨gb194, 0, none⟩ = some (.int .u64 a0_0) ∧ w'.cell? ⟨gb194, 1, none⟩ = some (.int .u64 a0_1) ∧ w'.cell? ⟨gb194, 2, none⟩ = some (.int .u64 a0_2)) (ds := []) (bl_ 9 0) (by kernel_rfl) rfl (by kernel_rfl) (cc3_ BK194) (fun hHeld => ?_); refine with_tabW spigotref21_Share.tab1 spigotref21_Share.bits1 (fun HT_ HW_ => ?_)
  generalize w25.drew = w26 at BK194 HB hHeld ⊢
  refine pa_ 0 (some 10) (bl_ 9 1) HT_ ?_
  refine pa_ 3 (some 13) (bl_ 9 9) HT_ ?_
  refine ta_ 1 (some 11) (bl_ 9 11) HT_ HW_ hHeld ?_
  refine ta_ 4 (some 14) (bl_ 9 27) HT_ HW_ hHeld ?_
  refine join_ (σ := Nat) 1 (bl_ 9 255) (fun s_ => [(12, .agg #[.int .u64 t195, .int .u64 t196, .int .u64 t197, .int .u64 t198, .int .u64 t199, .int .u64 t200]), (15, .agg #[.int .u64 t201, .int .u64 t202, .int .u64 t203, .int .u64 t204, .int .u64 t205, .int .u64 t206]), (16, .agg #[.int .u64 t207, .int .u64 t208, .int .u64 t209, .int .u64 t210, .int .u64 t211, .int .u64 t212]), (6, .pointer (some ⟨s_, 0, none⟩))]) (fun s_ w' => (w'.cell? ⟨gb194, 0, none⟩ = some (.int .u64 a0_0) ∧ w'.cell? ⟨gb194, 1, none⟩ = some (.int .u64 a0_1) ∧ w'.cell? ⟨gb194, 2, none⟩ = some (.int .u64 a0_2)) ∧ (w'.heap[gb194]? = some (.cells #[.int .u64 a0_0, .int .u64 a0_1, .int .u64 a0_2] 25 (0, 0))) ∧ (w'.heap[s_]? = some (.cells #[.int .u64 0, .int .u64 0, .int .u64 0, .int .u64 0, .int .u64 0, .int .u64 0] 74 (0, 0))) ∧ (w.heap.size ≤ s_) ∧ (w.heap.size ≤ s_) ∧ (gb194 ≠ s_) ∧ (s_ ≠ gb194) ∧ (Below w.heap.size w w')) ?_ ?_
  rotate_left
  ·intro hCont
   refine tw_ 2 7 (some 12) (some 6) (bl_ 9 31) (bl_ 9 155) HT_ (fun K hK => ?_) fun K hK => ?_
   ·refine goesB_ Try.func46 #[.int .u64 a0_0] ?_
    with_reducible refine (spigotref21_Made.calls a0_0 t195 t196 t197 t198 t199 t200 _ A3.out).mono ?_
    rintro e w27 ⟨rfl, hb⟩
    refine ⟨_, rfl, ?_⟩
    replace BK194 := bb_ BK194 hb
    replace HB := bs_ w hb
    clear hb
    refine hK.out _ _ (cc3_ BK194) (fun hHeld => ?_)
    clear hK K
    refine nm_ (some 12) ?_
    refine tw_ 5 7 (some 15) (some 6) (bl_ 9 63) (bl_ 9 159) HT_ (fun K hK => ?_) fun K hK => ?_
    ·refine goesB_ Try.func46 #[.int .u64 a0_1] ?_
     with_reducible refine (spigotref21_Made.calls a0_1 t201 t202 t203 t204 t205 t206 _ A4.out).mono ?_
     rintro e w28 ⟨rfl, hb⟩
     refine ⟨_, rfl, ?_⟩
     replace BK194 := bb_ BK194 hb
     replace HB := bs_ w hb
     clear hb
     refine hK.out _ _ (cc3_ BK194) (fun hHeld => ?_)
     clear hK K
     refine nm_ (some 15) ?_
     refine tw_ 6 7 (some 16) (some 6) (bl_ 9 127) (bl_ 9 191) HT_ (fun K hK => ?_) fun K hK => ?_
     ·refine goesB_ Try.func45 #[.agg #[.int .u64 t195, .int .u64 t196, .int .u64 t197, .int .u64 t198, .int .u64 t199, .int .u64 t200], .agg #[.int .u64 t201, .int .u64 t202, .int .u64 t203, .int .u64 t204, .int .u64 t205, .int .u64 t206]] ?_
      with_reducible refine (spigotref21_Plus.calls t195 t196 t197 t198 t199 t200 t201 t202 t203 t204 t205 t206 t207 t208 t209 t210 t211 t212 _ A5.out).mono ?_
      rintro e w29 ⟨rfl, hb⟩
      refine ⟨_, rfl, ?_⟩
      replace BK194 := bb_ BK194 hb
      replace HB := bs_ w hb
      clear hb
      refine hK.out _ _ (cc3_ BK194) (fun hHeld => ?_)
      clear hK K
      refine nm_ (some 16) ?_
      refine oa_ 7 (some 6) (bl_ 9 255) HT_ fun K hK => ?_
      refine bs2_ #[.int .u64 0, .int .u64 0, .int .u64 0, .int .u64 0, .int .u64 0, .int .u64 0] 74 ?_
      intro gb213 hg w30 BK213 hb
      have GW213 := bz_ w hg
      have GE213 := GW213
      have NB194_213 := bn_ BK194 hg
      have NB213_194 := bm_ BK194 hg
      replace BK194 := bb_ BK194 hb
      replace HB := bs_ w hb
      clear hb hg
      refine hK.out _ _ (cc3_ BK194) (fun hHeld => ?_)
      clear hK K
      refine nm_ (some 6) ?_
      exact no_ (hCont (gb213) _ ⟨hHeld, (bq_ BK194), (bq_ BK213), GW213.out, GE213.out, NB194_213.out, NB213_194.out, bh_⟩)
     ·refine bs2_ #[.int .u64 0, .int .u64 0, .int .u64 0, .int .u64 0, .int .u64 0, .int .u64 0] 74 ?_
      intro gb213 hg w29 BK213 hb
      have GW213 := bz_ w hg
      have GE213 := GW213
      have NB194_213 := bn_ BK194 hg
      have NB213_194 := bm_ BK194 hg
      replace BK194 := bb_ BK194 hb
      replace HB := bs_ w hb
      clear hb hg
      refine hK.out _ _ (cc3_ BK194) (fun hHeld => ?_)
      clear hK K
      refine nm_ (some 6) ?_
      refine oa_ 6 (some 16) (bl_ 9 255) HT_ fun K hK => ?_
      refine goesB_ Try.func45 #[.agg #[.int .u64 t195, .int .u64 t196, .int .u64 t197, .int .u64 t198, .int .u64 t199, .int .u64 t200], .agg #[.int .u64 t201, .int .u64 t202, .int .u64 t203, .int .u64 t204, .int .u64 t205, .int .u64 t206]] ?_
      with_reducible refine (spigotref21_Plus.calls t195 t196 t197 t198 t199 t200 t201 t202 t203 t204 t205 t206 t207 t208 t209 t210 t211 t212 _ A5.out).mono ?_
      rintro e w30 ⟨rfl, hb⟩
      refine ⟨_, rfl, ?_⟩
      replace BK194 := bb_ BK194 hb
      replace BK213 := bb_ BK213 hb
      replace HB := bs_ w hb
      clear hb
      refine hK.out _ _ (cc3_ BK194) (fun hHeld => ?_)
      clear hK K
      refine nm_ (some 16) ?_
      exact no_ (hCont (gb213) _ ⟨hHeld, (bq_ BK194), (bq_ BK213), GW213.out, GE213.out, NB194_213.out, NB213_194.out, bh_⟩)
    ·refine bs2_ #[.int .u64 0, .int .u64 0, .int .u64 0, .int .u64 0, .int .u64 0, .int .u64 0] 74 ?_
     intro gb213 hg w28 BK213 hb
     have GW213 := bz_ w hg
     have GE213 := GW213
     have NB194_213 := bn_ BK194 hg
     have NB213_194 := bm_ BK194 hg
     replace BK194 := bb_ BK194 hb
     replace HB := bs_ w hb
     clear hb hg
     refine hK.out _ _ (cc3_ BK194) (fun hHeld => ?_)
     clear hK K
     refine nm_ (some 6) ?_
     refine oa_ 5 (some 15) (bl_ 9 191) HT_ fun K hK => ?_
     refine goesB_ Try.func46 #[.int .u64 a0_1] ?_
     with_reducible refine (spigotref21_Made.calls a0_1 t201 t202 t203 t204 t205 t206 _ A4.out).mono ?_
     rintro e w29 ⟨rfl, hb⟩
     refine ⟨_, rfl, ?_⟩
     replace BK194 := bb_ BK194 hb
     replace BK213 := bb_ BK213 hb
     replace HB := bs_ w hb
     clear hb
     refine hK.out _ _ (cc3_ BK194) (fun hHeld => ?_)
     clear hK K
     refine nm_ (some 15) ?_
     refine oa_ 6 (some 16) (bl_ 9 255) HT_ fun K hK => ?_
     refine goesB_ Try.func45 #[.agg #[.int .u64 t195, .int .u64 t196, .int .u64 t197, .int .u64 t198, .int .u64 t199, .int .u64 t200], .agg #[.int .u64 t201, .int .u64 t202, .int .u64 t203, .int .u64 t204, .int .u64 t205, .int .u64 t206]] ?_
     with_reducible refine (spigotref21_Plus.calls t195 t196 t197 t198 t199 t200 t201 t202 t203 t204 t205 t206 t207 t208 t209 t210 t211 t212 _ A5.out).mono ?_
     rintro e w30 ⟨rfl, hb⟩
     refine ⟨_, rfl, ?_⟩
     replace BK194 := bb_ BK194 hb
     replace BK213 := bb_ BK213 hb
     replace HB := bs_ w hb
     clear hb
     refine hK.out _ _ (cc3_ BK194) (fun hHeld => ?_)
     clear hK K
     refine nm_ (some 16) ?_
     exact no_ (hCont (gb213) _ ⟨hHeld, (bq_ BK194), (bq_ BK213), GW213.out, GE213.out, NB194_213.out, NB213_194.out, bh_⟩)
   ·refine bs2_ #[.int .u64 0, .int .u64 0, .int .u64 0, .int .u64 0, .int .u64 0, .int .u64 0] 74 ?_
    intro gb213 hg w27 BK213 hb
    have GW213 := bz_ w hg
    have GE213 := GW213
    have NB194_213 := bn_ BK194 hg
    have NB213_194 := bm_ BK194 hg
    replace BK194 := bb_ BK194 hb
    replace HB := bs_ w hb
    clear hb hg
    refine hK.out _ _ (cc3_ BK194) (fun hHeld => ?_)
    clear hK K
    refine nm_ (some 6) ?_
    refine oa_ 2 (some 12) (bl_ 9 159) HT_ fun K hK => ?_
    refine goesB_ Try.func46 #[.int .u64 a0_0] ?_
    with_reducible refine (spigotref21_Made.calls a0_0 t195 t196 t197 t198 t199 t200 _ A3.out).mono ?_
    rintro e w28 ⟨rfl, hb⟩
    refine ⟨_, rfl, ?_⟩
    replace BK194 := bb_ BK194 hb
    replace BK213 := bb_ BK213 hb
    replace HB := bs_ w hb
    clear hb
    refine hK.out _ _ (cc3_ BK194) (fun hHeld => ?_)
    clear hK K
    refine nm_ (some 12) ?_
    refine oa_ 5 (some 15) (bl_ 9 191) HT_ fun K hK => ?_
    refine goesB_ Try.func46 #[.int .u64 a0_1] ?_
    with_reducible refine (spigotref21_Made.calls a0_1 t201 t202 t203 t204 t205 t206 _ A4.out).mono ?_
    rintro e w29 ⟨rfl, hb⟩
    refine ⟨_, rfl, ?_⟩
    replace BK194 := bb_ BK194 hb
    replace BK213 := bb_ BK213 hb
    replace HB := bs_ w hb
    clear hb
    refine hK.out _ _ (cc3_ BK194) (fun hHeld => ?_)
    clear hK K
    refine nm_ (some 15) ?_
    refine oa_ 6 (some 16) (bl_ 9 255) HT_ fun K hK => ?_
    refine goesB_ Try.func45 #[.agg #[.int .u64 t195, .int .u64 t196, .int .u64 t197, .int .u64 t198, .int .u64 t199, .int .u64 t200], .agg #[.int .u64 t201, .int .u64 t202, .int .u64 t203, .int .u64 t204, .int .u64 t205, .int .u64 t206]] ?_
    with_reducible refine (spigotref21_Plus.calls t195 t196 t197 t198 t199 t200 t201 t202 t203 t204 t205 t206 t207 t208 t209 t210 t211 t212 _ A5.out).mono ?_
    rintro e w30 ⟨rfl, hb⟩
    refine ⟨_, rfl, ?_⟩
    replace BK194 := bb_ BK194 hb
    replace BK213 := bb_ BK213 hb
    replace HB := bs_ w hb
    clear hb
    refine hK.out _ _ (cc3_ BK194) (fun hHeld => ?_)
    clear hK K
    refine nm_ (some 16) ?_
    exact no_ (hCont (gb213) _ ⟨hHeld, (bq_ BK194), (bq_ BK213), GW213.out, GE213.out, NB194_213.out, NB213_194.out, bh_⟩)
  rintro gb213 w31 ⟨hS_, h0_, h1_, h2_, h3_, h4_, h5_, h6_⟩
  have BK213 := Aside0.mk h1_
  have GW213 := Aside0.mk h2_
  have GE213 := Aside0.mk h3_
  have NB194_213 := Aside0.mk h4_
  have NB213_194 := Aside0.mk h5_
  replace BK194 := Aside0.mk h0_
  replace HB := Aside0.mk h6_
  clear h0_ h1_ h2_ h3_ h4_ h5_ h6_
  have hHeld := hS_
  refine nq_ ?_
  refine oa_ 8 none (bl_ 9 511) HT_ fun K hK => ?_
  have hs32 : w31.cell? ⟨gb213, 0, none⟩ = some (.int .u64 0) := (blk_cell BK213.out 0).trans rfl
  have hfs32 := blk_frozen BK213.out 0
  have hns32_0 := NB194_213.out
  have hms32_0 := NB213_194.out
  have hs33 : w31.cell? ⟨gb213, 1, none⟩ = some (.int .u64 0) := (blk_cell BK213.out 1).trans rfl
  have hfs33 := blk_frozen BK213.out 1
  have hns33_0 := NB194_213.out
  have hms33_0 := NB213_194.out
  have hs34 : w31.cell? ⟨gb213, 2, none⟩ = some (.int .u64 0) := (blk_cell BK213.out 2).trans rfl
  have hfs34 := blk_frozen BK213.out 2
  have hns34_0 := NB194_213.out
  have hms34_0 := NB213_194.out
  have hs35 : w31.cell? ⟨gb213, 3, none⟩ = some (.int .u64 0) := (blk_cell BK213.out 3).trans rfl
  have hfs35 := blk_frozen BK213.out 3
  have hns35_0 := NB194_213.out
  have hms35_0 := NB213_194.out
  have hs36 : w31.cell? ⟨gb213, 4, none⟩ = some (.int .u64 0) := (blk_cell BK213.out 4).trans rfl
  have hfs36 := blk_frozen BK213.out 4
  have hns36_0 := NB194_213.out
  have hms36_0 := NB213_194.out
  have hs37 : w31.cell? ⟨gb213, 5, none⟩ = some (.int .u64 0) := (blk_cell BK213.out 5).trans rfl
  have hfs37 := blk_frozen BK213.out 5
  have hns37_0 := NB194_213.out
  have hms37_0 := NB213_194.out
  refine sk_ ?_
  refine hK.out _ _ (cf3_ hHeld) (fun hHeld => ?_)
  clear hK K
  refine done_ (done_of HT_.out (by kernel_rfl)) ?_
  replace hn213_194 := NB213_194.out
  replace hn194_213 := NB194_213.out
  replace hc213 := ce6_ BK213
  replace hc194 := ce3_ BK194
  try go_wp2_with (first | ((with_reducible refine gate_callee (f := 46) rfl ?_); refine goesA_ (some 23) Try.func46 #[.int .u64 a0_0] ?_; (with_reducible refine (spigotref21_Made.calls a0_0 t214 t215 t216 t217 t218 t219 _ A22.out).mono ?_); rintro e w41 ⟨rfl, hb⟩; refine ⟨_, rfl, ?_⟩; replace BK194 := bf_ BK194 hb; replace BK213 := Aside0.mk (blk_below (g := gb213) (o := .cells #[.int .u64 t207, .int .u64 t208, .int .u64 t209, .int .u64 t210, .int .u64 t211, .int .u64 t212] 74 (0, 0)) (bp6_ (bq_ BK213)) hb); replace HB := bs_ w hb; clear hb) | ((with_reducible refine gate_callee (f := 46) rfl ?_); refine goesA_ (some 25) Try.func46 #[.int .u64 a1] ?_; (with_reducible refine (spigotref21_Made.calls a1 t220 t221 t222 t223 t224 t225 _ A23.out).mono ?_); rintro e w42 ⟨rfl, hb⟩; refine ⟨_, rfl, ?_⟩; replace BK194 := bb_ BK194 hb; replace BK213 := bb_ BK213 hb; replace HB := bs_ w hb; clear hb) | ((with_reducible refine gate_callee (f := 47) rfl ?_); refine goesA_ (some 26) Try.func47 #[.agg #[.int .u64 t214, .int .u64 t215, .int .u64 t216, .int .u64 t217, .int .u64 t218, .int .u64 t219], .agg #[.int .u64 t220, .int .u64 t221, .int .u64 t222, .int .u64 t223, .int .u64 t224, .int .u64 t225]] ?_; (with_reducible refine (spigotref21_Times.calls t214 t215 t216 t217 t218 t219 t220 t221 t222 t223 t224 t225 t226 t227 t228 t229 t230 t231 _ A24.out).mono ?_); rintro e w43 ⟨rfl, hb⟩; refine ⟨_, rfl, ?_⟩; replace BK194 := bb_ BK194 hb; replace BK213 := bb_ BK213 hb; replace HB := bs_ w hb; clear hb) | ((with_reducible refine gate_dst (N := 7) rfl ?_); refine bx_ #[.int .u64 0, .int .u64 0, .int .u64 0, .int .u64 0, .int .u64 0, .int .u64 0] 74 ?_; intro gb232 hg w44 BK232 hb; have GW232 := bz_ w hg; have NB194_232 := bn_ BK194 hg; have NB232_194 := bm_ BK194 hg; have NB213_232 := bn_ BK213 hg; have NB232_213 := bm_ BK213 hg; replace BK194 := bb_ BK194 hb; replace BK213 := bb_ BK213 hb; replace HB := bs_ w hb; clear hb hg; replace hn232_194 := NB232_194.out; replace hn194_232 := NB194_232.out; replace hn232_213 := NB232_213.out; replace hn213_232 := NB213_232.out; replace hc232 := ce6_ BK232))
  go_loopg [8, 9] k (fun kq v8 v9 w' => ∃ (x8_1 : Int) (x9_1 : Int), v8 = .int .u64 x8_1 ∧ v9 = .int .u64 x9_1 ∧ Aside0 (spigotref21_Share.l0 kq x8_1 x9_1 t207 t208 t209 t210 t211 t212 t226 t227 t228 t229 t230 t231 = some (r1, r2)) ∧ Aside0 (kq ≤ k) ∧ Aside0 (w'.heap[gb194]? = some (.cells #[.int .u64 a0_0, .int .u64 a0_1, .int .u64 a0_2] 25 (0, 0))) ∧ Aside0 (w'.heap[gb213]? = some (.cells #[.int .u64 t207, .int .u64 t208, .int .u64 t209, .int .u64 t210, .int .u64 t211, .int .u64 t212] 74 (0, 0))) ∧ Aside0 (w'.heap[gb232]? = some (.cells #[.int .u64 t226, .int .u64 t227, .int .u64 t228, .int .u64 t229, .int .u64 t230, .int .u64 t231] 74 (0, 0))) ∧ Aside0 (Below w.heap.size w w'))
  case atStart => exact ⟨(0), (9223372036854775808), rf_, rf_, H', ⟨Nat.le_refl _⟩, ⟨(bt_ BK194)⟩, ⟨(bt_ BK213)⟩, ⟨(bp6_ (bq_ BK232))⟩, bw_⟩
  case round =>
   clear H'
   try clear c6
   try clear c6b0
   try clear c6b1
   try clear c6b2
   obtain ⟨x8_1, x9_1, rfl, rfl, HA, HK1, BK194, BK213, BK232, HB⟩ := hrel
   cases gk with
   | zero => exact absurd HA.out (by simp [spigotref21_Share.l0])
   | succ k1 =>
    have H := HA.out
    clear HA
    simp only [spigotref21_Share.l0] at H
    by_cases c48 : x9_1 > 0
    ·rw [if_pos c48] at H
     have c48b0 : decide (0 < x9_1) = true := decide_eq_true c48
     clear c48
     have H0_ := bo_ H; clear H; obtain ⟨⟨t233, t234, t235, t236, t237, t238⟩, A49, H⟩ := H0_
     try dsimp only at H
     have H0_ := bo_ H; clear H; obtain ⟨⟨t239, t240, t241, t242, t243, t244⟩, A50, H⟩ := H0_
     try dsimp only at H
     have H0_ := bo_ H; clear H; obtain ⟨t245, A51, H⟩ := H0_
     try dsimp only at H
     by_cases c52 : t245 = true
     ·subst c52
      rw [if_pos rfl] at H
      try dsimp only at H
      have H' := Aside0.mk H
      clear H
      try go_wp2
      replace BK194 := Aside0.mk (blk_drew BK194.out)
      replace BK213 := Aside0.mk (blk_drew BK213.out)
      replace BK232 := Aside0.mk (blk_drew BK232.out)
      replace HB := Aside0.mk (below_drew1 HB.out)
      refine start_ (n := 8) (S := fun w' => w'.cell? ⟨gb213, 0, none⟩ = some (.int .u64 t207) ∧ w'.cell? ⟨gb213, 1, none⟩ = some (.int .u64 t208) ∧ w'.cell? ⟨gb213, 2, none⟩ = some (.int .u64 t209) ∧ w'.cell? ⟨gb213, 3, none⟩ = some (.int .u64 t210) ∧ w'.cell? ⟨gb213, 4, none⟩ = some (.int .u64 t211) ∧ w'.cell? ⟨gb213, 5, none⟩ = some (.int .u64 t212) ∧ w'.cell? ⟨gb232, 0, none⟩ = some (.int .u64 t226) ∧ w'.cell? ⟨gb232, 1, none⟩ = some (.int .u64 t227) ∧ w'.cell? ⟨gb232, 2, none⟩ = some (.int .u64 t228) ∧ w'.cell? ⟨gb232, 3, none⟩ = some (.int .u64 t229) ∧ w'.cell? ⟨gb232, 4, none⟩ = some (.int .u64 t230) ∧ w'.cell? ⟨gb232, 5, none⟩ = some (.int .u64 t231)) (ds := []) (bl_ 8 0) (by kernel_rfl) rfl (by kernel_rfl) ⟨(blk_cell BK213.out 0).trans rfl, (blk_cell BK213.out 1).trans rfl, (blk_cell BK213.out 2).trans rfl, (blk_cell BK213.out 3).trans rfl, (blk_cell BK213.out 4).trans rfl, (blk_cell BK213.out 5).trans rfl, (blk_cell BK232.out 0).trans rfl, (blk_cell BK232.out 1).trans rfl, (blk_cell BK232.out 2).trans rfl, (blk_cell BK232.out 3).trans rfl, (blk_cell BK232.out 4).trans rfl, (blk_cell BK232.out 5).trans rfl⟩ (fun hHeld => ?_); refine with_tabW spigotref21_Share.tab9 spigotref21_Share.bits9 (fun HT_ HW_ => ?_)
      generalize wr.drew = w53 at BK194 BK213 BK232 HB hHeld ⊢
      refine pa_ 1 (some 32) (bl_ 8 2) HT_ ?_
      refine pa_ 2 (some 33) (bl_ 8 6) HT_ ?_
      refine pa_ 3 (some 34) (bl_ 8 14) HT_ ?_
      refine ta_ 0 (some 31) (bl_ 8 15) HT_ HW_ hHeld ?_
      refine ta_ 6 (some 37) (bl_ 8 79) HT_ HW_ hHeld ?_
      refine oa_ 4 (some 35) (bl_ 8 95) HT_ fun K hK => ?_
      refine goesB_ Try.func46 #[.int .u64 (IntKind.u64.wrap (x8_1 + x9_1))] ?_
      with_reducible refine (spigotref21_Made.calls (IntKind.u64.wrap (x8_1 + x9_1)) t233 t234 t235 t236 t237 t238 _ A49.out).mono ?_
      rintro e w54 ⟨rfl, hb⟩
      refine ⟨_, rfl, ?_⟩
      replace BK194 := bb_ BK194 hb
      replace BK213 := bb_ BK213 hb
      replace BK232 := bb_ BK232 hb
      replace HB := bs_ w hb
      clear hb
      refine hK.out _ _ ⟨(blk_cell BK213.out 0).trans rfl, (blk_cell BK213.out 1).trans rfl, (blk_cell BK213.out 2).trans rfl, (blk_cell BK213.out 3).trans rfl, (blk_cell BK213.out 4).trans rfl, (blk_cell BK213.out 5).trans rfl, (blk_cell BK232.out 0).trans rfl, (blk_cell BK232.out 1).trans rfl, (blk_cell BK232.out 2).trans rfl, (blk_cell BK232.out 3).trans rfl, (blk_cell BK232.out 4).trans rfl, (blk_cell BK232.out 5).trans rfl⟩ (fun hHeld => ?_)
      clear hK K
      refine nm_ (some 35) ?_
      refine oa_ 5 (some 36) (bl_ 8 127) HT_ fun K hK => ?_
      refine goesB_ Try.func47 #[.agg #[.int .u64 t207, .int .u64 t208, .int .u64 t209, .int .u64 t210, .int .u64 t211, .int .u64 t212], .agg #[.int .u64 t233, .int .u64 t234, .int .u64 t235, .int .u64 t236, .int .u64 t237, .int .u64 t238]] ?_
      with_reducible refine (spigotref21_Times.calls t207 t208 t209 t210 t211 t212 t233 t234 t235 t236 t237 t238 t239 t240 t241 t242 t243 t244 _ A50.out).mono ?_
      rintro e w55 ⟨rfl, hb⟩
      refine ⟨_, rfl, ?_⟩
      replace BK194 := bb_ BK194 hb
      replace BK213 := bb_ BK213 hb
      replace BK232 := bb_ BK232 hb
      replace HB := bs_ w hb
      clear hb
      refine hK.out _ _ ⟨(blk_cell BK213.out 0).trans rfl, (blk_cell BK213.out 1).trans rfl, (blk_cell BK213.out 2).trans rfl, (blk_cell BK213.out 3).trans rfl, (blk_cell BK213.out 4).trans rfl, (blk_cell BK213.out 5).trans rfl, (blk_cell BK232.out 0).trans rfl, (blk_cell BK232.out 1).trans rfl, (blk_cell BK232.out 2).trans rfl, (blk_cell BK232.out 3).trans rfl, (blk_cell BK232.out 4).trans rfl, (blk_cell BK232.out 5).trans rfl⟩ (fun hHeld => ?_)
      clear hK K
      refine nm_ (some 36) ?_
      refine oa_ 7 (some 38) (bl_ 8 255) HT_ fun K hK => ?_
      refine goesB_ Try.func48 #[.agg #[.int .u64 t239, .int .u64 t240, .int .u64 t241, .int .u64 t242, .int .u64 t243, .int .u64 t244], .agg #[.int .u64 t226, .int .u64 t227, .int .u64 t228, .int .u64 t229, .int .u64 t230, .int .u64 t231]] ?_
      with_reducible refine (spigotref21_AtMost.calls t239 t240 t241 t242 t243 t244 t226 t227 t228 t229 t230 t231 true _ A51.out).mono ?_
      rintro e w56 ⟨rfl, hb⟩
      refine ⟨_, rfl, ?_⟩
      replace BK194 := bb_ BK194 hb
      replace BK213 := bb_ BK213 hb
      replace BK232 := bb_ BK232 hb
      replace HB := bs_ w hb
      clear hb
      refine hK.out _ _ ⟨(blk_cell BK213.out 0).trans rfl, (blk_cell BK213.out 1).trans rfl, (blk_cell BK213.out 2).trans rfl, (blk_cell BK213.out 3).trans rfl, (blk_cell BK213.out 4).trans rfl, (blk_cell BK213.out 5).trans rfl, (blk_cell BK232.out 0).trans rfl, (blk_cell BK232.out 1).trans rfl, (blk_cell BK232.out 2).trans rfl, (blk_cell BK232.out 3).trans rfl, (blk_cell BK232.out 4).trans rfl, (blk_cell BK232.out 5).trans rfl⟩ (fun hHeld => ?_)
      clear hK K
      refine nm_ (some 38) ?_
      refine done_ (done_of HT_.out (by kernel_rfl)) ?_
      try go_wp2
      go_roundg k1
      case measure => have := HK1.out; omega
      case rel => exact ⟨(IntKind.u64.wrap (x8_1 + x9_1)), (IntKind.u64.wrap (Int.tdiv x9_1 2)), rf_, rf_, H', ⟨by have := HK1.out; omega⟩, ⟨bq_ BK194⟩, ⟨bq_ BK213⟩, ⟨bq_ BK232⟩, bw_⟩
     ·replace c52 := Bool.eq_false_iff.mpr c52
      subst c52
      rw [if_neg (show ¬ (false = true) by decide)] at H
      try dsimp only at H
      have H' := Aside0.mk H
      clear H
      try go_wp2
      replace BK194 := Aside0.mk (blk_drew BK194.out)
      replace BK213 := Aside0.mk (blk_drew BK213.out)
      replace BK232 := Aside0.mk (blk_drew BK232.out)
      replace HB := Aside0.mk (below_drew1 HB.out)
      refine start_ (n := 8) (S := fun w' => w'.cell? ⟨gb213, 0, none⟩ = some (.int .u64 t207) ∧ w'.cell? ⟨gb213, 1, none⟩ = some (.int .u64 t208) ∧ w'.cell? ⟨gb213, 2, none⟩ = some (.int .u64 t209) ∧ w'.cell? ⟨gb213, 3, none⟩ = some (.int .u64 t210) ∧ w'.cell? ⟨gb213, 4, none⟩ = some (.int .u64 t211) ∧ w'.cell? ⟨gb213, 5, none⟩ = some (.int .u64 t212) ∧ w'.cell? ⟨gb232, 0, none⟩ = some (.int .u64 t226) ∧ w'.cell? ⟨gb232, 1, none⟩ = some (.int .u64 t227) ∧ w'.cell? ⟨gb232, 2, none⟩ = some (.int .u64 t228) ∧ w'.cell? ⟨gb232, 3, none⟩ = some (.int .u64 t229) ∧ w'.cell? ⟨gb232, 4, none⟩ = some (.int .u64 t230) ∧ w'.cell? ⟨gb232, 5, none⟩ = some (.int .u64 t231)) (ds := []) (bl_ 8 0) (by kernel_rfl) rfl (by kernel_rfl) ⟨(blk_cell BK213.out 0).trans rfl, (blk_cell BK213.out 1).trans rfl, (blk_cell BK213.out 2).trans rfl, (blk_cell BK213.out 3).trans rfl, (blk_cell BK213.out 4).trans rfl, (blk_cell BK213.out 5).trans rfl, (blk_cell BK232.out 0).trans rfl, (blk_cell BK232.out 1).trans rfl, (blk_cell BK232.out 2).trans rfl, (blk_cell BK232.out 3).trans rfl, (blk_cell BK232.out 4).trans rfl, (blk_cell BK232.out 5).trans rfl⟩ (fun hHeld => ?_); refine with_tabW spigotref21_Share.tab9 spigotref21_Share.bits9 (fun HT_ HW_ => ?_)
      generalize wr.drew = w57 at BK194 BK213 BK232 HB hHeld ⊢
      refine pa_ 1 (some 32) (bl_ 8 2) HT_ ?_
      refine pa_ 2 (some 33) (bl_ 8 6) HT_ ?_
      refine pa_ 3 (some 34) (bl_ 8 14) HT_ ?_
      refine ta_ 0 (some 31) (bl_ 8 15) HT_ HW_ hHeld ?_
      refine ta_ 6 (some 37) (bl_ 8 79) HT_ HW_ hHeld ?_
      refine oa_ 4 (some 35) (bl_ 8 95) HT_ fun K hK => ?_
      refine goesB_ Try.func46 #[.int .u64 (IntKind.u64.wrap (x8_1 + x9_1))] ?_
      with_reducible refine (spigotref21_Made.calls (IntKind.u64.wrap (x8_1 + x9_1)) t233 t234 t235 t236 t237 t238 _ A49.out).mono ?_
      rintro e w58 ⟨rfl, hb⟩
      refine ⟨_, rfl, ?_⟩
      replace BK194 := bb_ BK194 hb
      replace BK213 := bb_ BK213 hb
      replace BK232 := bb_ BK232 hb
      replace HB := bs_ w hb
      clear hb
      refine hK.out _ _ ⟨(blk_cell BK213.out 0).trans rfl, (blk_cell BK213.out 1).trans rfl, (blk_cell BK213.out 2).trans rfl, (blk_cell BK213.out 3).trans rfl, (blk_cell BK213.out 4).trans rfl, (blk_cell BK213.out 5).trans rfl, (blk_cell BK232.out 0).trans rfl, (blk_cell BK232.out 1).trans rfl, (blk_cell BK232.out 2).trans rfl, (blk_cell BK232.out 3).trans rfl, (blk_cell BK232.out 4).trans rfl, (blk_cell BK232.out 5).trans rfl⟩ (fun hHeld => ?_)
      clear hK K
      refine nm_ (some 35) ?_
      refine oa_ 5 (some 36) (bl_ 8 127) HT_ fun K hK => ?_
      refine goesB_ Try.func47 #[.agg #[.int .u64 t207, .int .u64 t208, .int .u64 t209, .int .u64 t210, .int .u64 t211, .int .u64 t212], .agg #[.int .u64 t233, .int .u64 t234, .int .u64 t235, .int .u64 t236, .int .u64 t237, .int .u64 t238]] ?_
      with_reducible refine (spigotref21_Times.calls t207 t208 t209 t210 t211 t212 t233 t234 t235 t236 t237 t238 t239 t240 t241 t242 t243 t244 _ A50.out).mono ?_
      rintro e w59 ⟨rfl, hb⟩
      refine ⟨_, rfl, ?_⟩
      replace BK194 := bb_ BK194 hb
      replace BK213 := bb_ BK213 hb
      replace BK232 := bb_ BK232 hb
      replace HB := bs_ w hb
      clear hb
      refine hK.out _ _ ⟨(blk_cell BK213.out 0).trans rfl, (blk_cell BK213.out 1).trans rfl, (blk_cell BK213.out 2).trans rfl, (blk_cell BK213.out 3).trans rfl, (blk_cell BK213.out 4).trans rfl, (blk_cell BK213.out 5).trans rfl, (blk_cell BK232.out 0).trans rfl, (blk_cell BK232.out 1).trans rfl, (blk_cell BK232.out 2).trans rfl, (blk_cell BK232.out 3).trans rfl, (blk_cell BK232.out 4).trans rfl, (blk_cell BK232.out 5).trans rfl⟩ (fun hHeld => ?_)
      clear hK K
      refine nm_ (some 36) ?_
      refine oa_ 7 (some 38) (bl_ 8 255) HT_ fun K hK => ?_
      refine goesB_ Try.func48 #[.agg #[.int .u64 t239, .int .u64 t240, .int .u64 t241, .int .u64 t242, .int .u64 t243, .int .u64 t244], .agg #[.int .u64 t226, .int .u64 t227, .int .u64 t228, .int .u64 t229, .int .u64 t230, .int .u64 t231]] ?_
      with_reducible refine (spigotref21_AtMost.calls t239 t240 t241 t242 t243 t244 t226 t227 t228 t229 t230 t231 false _ A51.out).mono ?_
      rintro e w60 ⟨rfl, hb⟩
      refine ⟨_, rfl, ?_⟩
      replace BK194 := bb_ BK194 hb
      replace BK213 := bb_ BK213 hb
      replace BK232 := bb_ BK232 hb
      replace HB := bs_ w hb
      clear hb
      refine hK.out _ _ ⟨(blk_cell BK213.out 0).trans rfl, (blk_cell BK213.out 1).trans rfl, (blk_cell BK213.out 2).trans rfl, (blk_cell BK213.out 3).trans rfl, (blk_cell BK213.out 4).trans rfl, (blk_cell BK213.out 5).trans rfl, (blk_cell BK232.out 0).trans rfl, (blk_cell BK232.out 1).trans rfl, (blk_cell BK232.out 2).trans rfl, (blk_cell BK232.out 3).trans rfl, (blk_cell BK232.out 4).trans rfl, (blk_cell BK232.out 5).trans rfl⟩ (fun hHeld => ?_)
      clear hK K
      refine nm_ (some 38) ?_
      refine done_ (done_of HT_.out (by kernel_rfl)) ?_
      try go_wp2
      go_roundg k1
      case measure => have := HK1.out; omega
      case rel => exact ⟨(x8_1), (IntKind.u64.wrap (Int.tdiv x9_1 2)), rf_, rf_, H', ⟨by have := HK1.out; omega⟩, ⟨bq_ BK194⟩, ⟨bq_ BK213⟩, ⟨bq_ BK232⟩, bw_⟩
    ·rw [if_neg c48] at H
     have c48b0 : decide (0 < x9_1) = false := decide_eq_false c48
     clear c48
     simp only [Option.some.injEq, Prod.mk.injEq] at H
     obtain ⟨rfl, rfl⟩ := H
     go_wp2
     go_ret2
     exact fi_

end Go.Proofs.Ytcdmjdghmbdikaa.X
