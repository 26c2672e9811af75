/- WideBack over whole numbers. -/
import Derived.Test.YtcdmjdghmbdikaaX24
import Derived.Test.YtcdmjdghmbdikaaX25
import Derived.Test.YtcdmjdghmbdikaaAlive01
namespace Go.Proofs.Ytcdmjdghmbdikaa.X
open Go.RowKit Go.Proofs.YtcdmjdghmbdikaaW.PrintWords Go.Proofs.YtcdmjdghmbdikaaW.PrintLast Go.Proofs.YtcdmjdghmbdikaaW.PrintMore
set_option linter.unusedVariables false
set_option linter.unusedSimpArgs false

theorem times_ok {h l d : Int} (h0 : U64 h) (h1 : U64 l) (hd : U64 d) (hb : wv h l * d < 340282366920938463463374607431768211456) :
    spigotlaw01_times.f h l d = some (wv h l * d / 18446744073709551616, wv h l * d % 18446744073709551616, true) := by
  have e : wv h l * d = h * d * 18446744073709551616 + l * d := by
    unfold wv
    rw [Int.add_mul, Int.mul_assoc, Int.mul_comm 18446744073709551616 d, ← Int.mul_assoc]
  have m0 := mul_U64_bd h0 hd
  have m1 := mul_U64_bd h1 hd
  unfold spigotlaw01_times.f
  rw [wide_Mul_ok h0 hd]
  simp only [Option.bind_some]
  rw [if_neg (by omega), wide_Mul_ok h1 hd]
  simp only [Option.bind_some]
  have e2 : h * d % 18446744073709551616 = h * d := by omega
  have hu : U64 (h * d) := ⟨by omega, by omega⟩
  rw [e2, wide_Add_ok hu U64_zero (U64_hi (by omega) (by omega)) U64_lo (by rw [wv_of]; unfold wv; omega), wv_of, e]
  simp only [Option.bind_some]
  unfold wv
  simp
theorem WideBack_pure (a0 a1 d : Int) (h0 : U64 a0) (h1 : U64 a1) (hd : U64 d) : ∃ k, spigotlaw01_WideBack.f k a0 a1 d = some true := by
  refine ⟨300, ?_⟩
  unfold spigotlaw01_WideBack.f
  by_cases c : d = 0
  · subst c
    rw [wide_Div_zero, wide_Up_zero, alive01]
    simp
  · have p : 0 < d := by have := hd.1; omega
    obtain ⟨q0, q1⟩ := quot_bd h0 h1 p
    obtain ⟨r1, r2, r3⟩ := div_rest (n := wv a0 a1) p
    obtain ⟨w0, w1⟩ := wv_bd h0 h1
    rw [wide_Div_ok 300 (by omega) h0 h1 p hd.2, wide_Up_ok 300 (by omega) h0 h1 p hd.2, alive01]
    simp only [Option.bind_some]
    rw [if_neg c, times_ok (U64_hi q0 q1) U64_lo hd (by rw [wv_of]; omega), wv_of]
    simp only [Option.bind_some, wide_Of_ok]
    have m0 : 0 ≤ wv a0 a1 / d * d := Int.mul_nonneg q0 (by omega)
    have hr : U64 (wv a0 a1 % d) := ⟨r2, by have := hd.2; omega⟩
    rw [wide_Add_ok (U64_hi m0 (by omega)) U64_lo U64_zero hr (by rw [wv_of, wv_zero]; omega), wv_of, wv_zero, r1, wv_hi h1, wv_lo h1]
    simp only [Option.bind_some, ↓reduceIte]
    rw [if_neg (by omega), if_neg (by simp), cdiv_eq p]
    by_cases z : wv a0 a1 % d = 0
    · simp [z]
    · rw [if_neg z, if_neg z]
      have u := quot_up_bd h0 h1 p
      rw [cdiv_eq p, if_neg z] at u
      rw [wide_Add_ok (U64_hi q0 q1) U64_lo U64_zero ⟨by decide, by decide⟩ (by rw [wv_of, wv_zero]; omega), wv_of, wv_zero]
      simp
end Go.Proofs.Ytcdmjdghmbdikaa.X
