/- the examples of chapter 01 hold: the kernel runs the printed function. -/
import Derived.Test.YtcdmjdghmbdikaaX16
import Derived.Test.YtcdmjdghmbdikaaX23
import Derived.Test.YtcdmjdghmbdikaaWideDiv
namespace Go.Proofs.Ytcdmjdghmbdikaa.X
open Go.RowKit Go.Proofs.YtcdmjdghmbdikaaW.PrintWords Go.Proofs.YtcdmjdghmbdikaaW.PrintLast Go.Proofs.YtcdmjdghmbdikaaW.PrintMore
set_option linter.unusedVariables false
set_option linter.unusedSimpArgs false

set_option maxRecDepth 100000 in
theorem alive01 : spigotlaw01_alive.f 300 = some true := by kernel_rfl
/-- A sum with its error. -/
def addv (a b : Int) : Int × Int × Int := if a + b < 340282366920938463463374607431768211456 then ((a + b) / 18446744073709551616, (a + b) % 18446744073709551616, 0) else (0, 0, 16)
section
variable {a0 a1 b0 b1 a b : Int}
theorem wide_Add_eq (h0 : U64 a0) (h1 : U64 a1) (h2 : U64 b0) (h3 : U64 b1) : wide_Add.f a0 a1 b0 b1 = some (addv (wv a0 a1) (wv b0 b1)) := by
  unfold addv
  by_cases o : wv a0 a1 + wv b0 b1 < 340282366920938463463374607431768211456
  · rw [if_pos o, wide_Add_ok h0 h1 h2 h3 o]
  · rw [if_neg o, wide_Add_err h0 h1 h2 h3 (by omega)]
theorem addv_comm : addv a b = addv b a := by unfold addv; rw [Int.add_comm]
theorem addv_ok (h : a + b < 340282366920938463463374607431768211456) : addv a b = ((a + b) / 18446744073709551616, (a + b) % 18446744073709551616, 0) := if_pos h
theorem addv_err (h : ¬ a + b < 340282366920938463463374607431768211456) : addv a b = (0, 0, 16) := if_neg h
theorem addv_U64 (h0 : 0 ≤ a) (h1 : 0 ≤ b) : U64 (addv a b).1 ∧ U64 (addv a b).2.1 := by
  unfold addv
  split
  · exact ⟨U64_hi (by omega) (by assumption), U64_lo⟩
  · exact ⟨U64_zero, U64_zero⟩
theorem addv_val (h : (addv a b).2.2 = 0) : a + b < 340282366920938463463374607431768211456 ∧ wv (addv a b).1 (addv a b).2.1 = a + b := by
  unfold addv at *
  split at h
  · rename_i c
    rw [if_pos c]
    exact ⟨c, wv_of⟩
  · simp at h
end
end Go.Proofs.Ytcdmjdghmbdikaa.X
