/- WideLess over whole numbers. -/
import Derived.Test.YtcdmjdghmbdikaaX27
import Derived.Test.YtcdmjdghmbdikaaAlive01
namespace Go.Proofs.Ytcdmjdghmbdikaa.X
open Go.RowKit Go.Proofs.YtcdmjdghmbdikaaW.PrintWords Go.Proofs.YtcdmjdghmbdikaaW.PrintLast Go.Proofs.YtcdmjdghmbdikaaW.PrintMore
set_option linter.unusedVariables false
set_option linter.unusedSimpArgs false

theorem less_end {a0 a1 b0 b1 c0 c1 : Int} (ha0 : U64 a0) (ha1 : U64 a1) (hb0 : U64 b0) (hb1 : U64 b1) (hc0 : U64 c0) (hc1 : U64 c1) :
    spigotlaw01_WideLess.j1 301 (wcmp (wv a0 a1) (wv b0 b1)) false a0 a1 b0 b1 c0 c1 = some true := by
  simp only [spigotlaw01_WideLess.j1, Bool.false_eq_true, ↓reduceIte]
  rw [wide_Cmp_ok 297 hb1 hc1, wide_Cmp_ok 297 ha1 hc1, alive01]
  simp only [Option.bind_some]
  by_cases c : wcmp (wv a0 a1) (wv b0 b1) > 0
  · rw [if_pos c]
  · rw [if_neg c]
    by_cases d : wcmp (wv b0 b1) (wv c0 c1) > 0
    · rw [if_pos d]
    · rw [if_neg d, if_pos]
      have c' : ¬ wv b0 b1 < wv a0 a1 := fun h => c (wcmp_pos.2 h)
      have d' : ¬ wv c0 c1 < wv b0 b1 := fun h => d (wcmp_pos.2 h)
      have : ¬ wcmp (wv a0 a1) (wv c0 c1) > 0 := fun h => by have := wcmp_pos.1 h; omega
      omega
theorem wcmp_add (a b c : Int) : wcmp (a + c) (b + c) = wcmp a b := by unfold wcmp; split <;> split <;> (try split) <;> (try split) <;> omega
theorem less_mid {a0 a1 b0 b1 c0 c1 : Int} (ha0 : U64 a0) (ha1 : U64 a1) (hb0 : U64 b0) (hb1 : U64 b1) (hc0 : U64 c0) (hc1 : U64 c1) :
    spigotlaw01_WideLess.j0 302 (wcmp (wv a0 a1) (wv b0 b1)) a0 a1 b0 b1 c0 c1 = some true := by
  obtain ⟨a_0, a_1⟩ := wv_bd ha0 ha1
  obtain ⟨b_0, b_1⟩ := wv_bd hb0 hb1
  obtain ⟨c_0, c_1⟩ := wv_bd hc0 hc1
  obtain ⟨p0, p1⟩ := addv_U64 a_0 c_0
  obtain ⟨q0, q1⟩ := addv_U64 b_0 c_0
  simp only [spigotlaw01_WideLess.j0]
  rw [wide_Add_eq ha0 ha1 hc0 hc1, wide_Add_eq hb0 hb1 hc0 hc1]
  simp only [Option.bind_some]
  by_cases e : (addv (wv a0 a1) (wv c0 c1)).2.2 = 0
  · rw [if_pos e]
    by_cases g : (addv (wv b0 b1) (wv c0 c1)).2.2 = 0
    · rw [if_pos g, wide_Cmp_ok 298 p1 q1, (addv_val e).2, (addv_val g).2, wcmp_add]
      simp only [Option.bind_some, bne_self_eq_false]
      exact less_end ha0 ha1 hb0 hb1 hc0 hc1
    · rw [if_neg g]
      exact less_end ha0 ha1 hb0 hb1 hc0 hc1
  · rw [if_neg e]
    exact less_end ha0 ha1 hb0 hb1 hc0 hc1
theorem wcmp_swap (a b : Int) : wcmp b a = wrap64 (-(wcmp a b)) := by
  unfold wcmp
  by_cases h : a < b
  · rw [if_pos h, if_neg (by omega), if_neg (by omega)]
    unfold wrap64
    omega
  · rw [if_neg h]
    by_cases g : a = b
    · rw [if_pos g, if_neg (by omega), if_pos g.symm]
      unfold wrap64
      omega
    · rw [if_neg g, if_pos (by omega)]
      unfold wrap64
      omega
theorem wv_inj {a0 a1 b0 b1 : Int} (ha1 : U64 a1) (hb1 : U64 b1) : wv a0 a1 = wv b0 b1 ↔ a0 = b0 ∧ a1 = b1 := by
  obtain ⟨_, _⟩ := ha1; obtain ⟨_, _⟩ := hb1
  unfold wv
  omega
theorem WideLess_pure (a0 a1 b0 b1 c0 c1 : Int) (ha0 : U64 a0) (ha1 : U64 a1) (hb0 : U64 b0) (hb1 : U64 b1) (hc0 : U64 c0) (hc1 : U64 c1) : ∃ k, spigotlaw01_WideLess.f k a0 a1 b0 b1 c0 c1 = some true := by
  refine ⟨302, ?_⟩
  obtain ⟨a_0, a_1⟩ := wv_bd ha0 ha1
  obtain ⟨b_0, b_1⟩ := wv_bd hb0 hb1
  unfold spigotlaw01_WideLess.f
  rw [wide_Cmp_ok 299 ha1 hb1, wide_Cmp_ok 299 hb1 ha1]
  simp only [Option.bind_some]
  have eqb : ((wcmp (wv a0 a1) (wv b0 b1) == 0) != (a0 == b0 && (a1 == b1))) = false := by
    have : (wcmp (wv a0 a1) (wv b0 b1) = 0) ↔ (a0 = b0 ∧ a1 = b1) := wcmp_zero.trans (wv_inj ha1 hb1)
    rw [bne_eq_false_iff_eq, Bool.eq_iff_iff]
    simpa using this
  by_cases c : wv b0 b1 ≤ wv a0 a1
  · rw [wide_Sub_ok ha0 ha1 hb0 hb1 c]
    simp only [Option.bind_some]
    rw [if_neg (by rw [decide_eq_true (wcmp_nonneg.2 c)]; simp), if_pos (wcmp_swap _ _), eqb]
    simp only [Bool.false_eq_true, ↓reduceIte]
    rw [wide_Add_ok (U64_hi (by omega) (by omega)) U64_lo hb0 hb1 (by rw [wv_of]; omega), wv_of, show wv a0 a1 - wv b0 b1 + wv b0 b1 = wv a0 a1 by omega, wv_hi ha1, wv_lo ha1]
    simp only [Option.bind_some, ↓reduceIte]
    rw [if_neg (by simp)]
    exact less_mid ha0 ha1 hb0 hb1 hc0 hc1
  · rw [wide_Sub_err ha0 ha1 hb0 hb1 (by omega)]
    simp only [Option.bind_some]
    rw [if_neg (by rw [decide_eq_false (fun h => c (wcmp_nonneg.1 h))]; decide), if_pos (wcmp_swap _ _), eqb]
    simp only [Bool.false_eq_true, ↓reduceIte]
    rw [if_neg (by decide)]
    exact less_mid ha0 ha1 hb0 hb1 hc0 hc1
end Go.Proofs.Ytcdmjdghmbdikaa.X
