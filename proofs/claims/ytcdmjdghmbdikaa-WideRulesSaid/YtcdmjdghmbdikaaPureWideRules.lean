/- WideRules over whole numbers. -/
import Derived.Test.YtcdmjdghmbdikaaX26
import Derived.Test.YtcdmjdghmbdikaaAlive01
namespace Go.Proofs.Ytcdmjdghmbdikaa.X
open Go.RowKit Go.Proofs.YtcdmjdghmbdikaaW.PrintWords Go.Proofs.YtcdmjdghmbdikaaW.PrintLast Go.Proofs.YtcdmjdghmbdikaaW.PrintMore
set_option linter.unusedVariables false
set_option linter.unusedSimpArgs false

theorem rules_rest {x y z : Int} (k : Nat) (hk : k = 300) (hx : U64 x) (hy : U64 y) (hz : U64 z) : spigotlaw01_WideRules.j0 (k + 1) x y z false = some true := by
  subst hk
  simp only [spigotlaw01_WideRules.j0, Bool.false_eq_true, ↓reduceIte]
  obtain ⟨y0, y1⟩ := hy
  obtain ⟨z0, z1⟩ := hz
  rw [tdiv_nonneg_eq y0, tdiv_nonneg_eq z0, wrap_id (x := y / 2) ⟨by omega, by omega⟩, wrap_id (x := z / 2) ⟨by omega, by omega⟩, wrap_id (x := y / 2 + z / 2) ⟨by omega, by omega⟩]
  have uy : U64 (y / 2) := ⟨by omega, by omega⟩
  have uz : U64 (z / 2) := ⟨by omega, by omega⟩
  have us : U64 (y / 2 + z / 2) := ⟨by omega, by omega⟩
  have my := mul_U64_bd hx uy
  have mz := mul_U64_bd hx uz
  have ms := mul_U64_bd hx us
  rw [Int.mul_add] at ms
  rw [wide_Mul_ok hx uy, wide_Mul_ok hx uz, wide_Mul_ok hx us]
  simp only [Option.bind_some]
  rw [wide_Add_ok (U64_hi (by omega) (by omega)) U64_lo (U64_hi (by omega) (by omega)) U64_lo (by rw [wv_of, wv_of]; omega), wv_of, wv_of, Int.mul_add, alive01]
  simp
theorem WideRules_pure (a0 a1 b0 b1 c0 c1 x y z : Int) (ha0 : U64 a0) (ha1 : U64 a1) (hb0 : U64 b0) (hb1 : U64 b1) (hc0 : U64 c0) (hc1 : U64 c1) (hx : U64 x) (hy : U64 y) (hz : U64 z) : ∃ k, spigotlaw01_WideRules.f k a0 a1 b0 b1 c0 c1 x y z = some true := by
  refine ⟨301, ?_⟩
  unfold spigotlaw01_WideRules.f
  obtain ⟨a_0, a_1⟩ := wv_bd ha0 ha1
  obtain ⟨b_0, b_1⟩ := wv_bd hb0 hb1
  obtain ⟨c_0, c_1⟩ := wv_bd hc0 hc1
  obtain ⟨p0, p1⟩ := addv_U64 a_0 b_0
  obtain ⟨s0, s1⟩ := addv_U64 b_0 c_0
  rw [wide_Add_eq ha0 ha1 hb0 hb1, wide_Add_eq hb0 hb1 ha0 ha1, addv_comm (a := wv b0 b1) (b := wv a0 a1), wide_Mul_ok hx hy, wide_Mul_ok hy hx, Int.mul_comm y x, wide_Add_eq hb0 hb1 hc0 hc1]
  simp only [Option.bind_some, ↓reduceIte]
  rw [if_neg (by simp), if_neg (by simp), wide_Add_eq p0 p1 hc0 hc1, wide_Add_eq ha0 ha1 s0 s1]
  simp only [Option.bind_some]
  by_cases e : (addv (wv a0 a1) (wv b0 b1)).2.2 = 0
  · rw [if_pos e]
    obtain ⟨e1, e2⟩ := addv_val e
    rw [e2]
    by_cases g : (addv (wv a0 a1 + wv b0 b1) (wv c0 c1)).2.2 = 0
    · rw [if_pos g]
      obtain ⟨g1, g2⟩ := addv_val g
      have h1 : wv b0 b1 + wv c0 c1 < 340282366920938463463374607431768211456 := by omega
      rw [addv_ok h1, if_pos rfl]
      simp only [wv_of]
      have h2 : wv a0 a1 + (wv b0 b1 + wv c0 c1) < 340282366920938463463374607431768211456 := by omega
      rw [addv_ok h2, addv_ok g1, if_pos rfl, Int.add_assoc]
      simp only [BEq.rfl, Bool.not_true, Bool.or_self]
      exact rules_rest 300 rfl hx hy hz
    · rw [if_neg g]
      exact rules_rest 300 rfl hx hy hz
  · rw [if_neg e]
    exact rules_rest 300 rfl hx hy hz
end Go.Proofs.Ytcdmjdghmbdikaa.X
