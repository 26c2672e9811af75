/- the package wide, and its reference, over whole numbers. -/
import Derived.Test.YtmfkedeaifdfdaaX4
import Derived.Test.YtmfkedeaifdfdaaX5
import Derived.Test.YtmfkedeaifdfdaaX7
import Derived.Test.YtmfkedeaifdfdaaX9
import Derived.Test.YtmfkedeaifdfdaaX15
import Derived.Test.YtmfkedeaifdfdaaMath
import Derived.Test.YtmfkedeaifdfdaaDiv64
namespace Go.Proofs.Ytmfkedeaifdfdaa.X
open Go.RowKit Go.Proofs.YtmfkedeaifdfdaaW.PrintWords Go.Proofs.YtmfkedeaifdfdaaW.PrintLast Go.Proofs.YtmfkedeaifdfdaaW.PrintMore
set_option linter.unusedVariables false
set_option linter.unusedSimpArgs false

/-- The number that two words stand for. -/
def wv (h l : Int) : Int := h * 18446744073709551616 + l
theorem wv_bd {h l : Int} (hh : U64 h) (hl : U64 l) : 0 ≤ wv h l ∧ wv h l < 340282366920938463463374607431768211456 := by
  obtain ⟨_, _⟩ := hh; obtain ⟨_, _⟩ := hl; unfold wv; omega
theorem wv_hi {h l : Int} (hl : U64 l) : wv h l / 18446744073709551616 = h := by obtain ⟨_, _⟩ := hl; unfold wv; omega
theorem wv_lo {h l : Int} (hl : U64 l) : wv h l % 18446744073709551616 = l := by obtain ⟨_, _⟩ := hl; unfold wv; omega
theorem wv_of {n : Int} : wv (n / 18446744073709551616) (n % 18446744073709551616) = n := by unfold wv; omega
theorem wv_zero {l : Int} : wv 0 l = l := by unfold wv; omega
theorem U64_hi {n : Int} (h0 : 0 ≤ n) (h1 : n < 340282366920938463463374607431768211456) : U64 (n / 18446744073709551616) := ⟨by omega, by omega⟩
theorem U64_lo {n : Int} : U64 (n % 18446744073709551616) := ⟨by omega, by omega⟩
theorem U64_zero : U64 0 := ⟨by decide, by decide⟩

section
variable {a0 a1 b0 b1 : Int}
theorem wide_Add_ok (h0 : U64 a0) (h1 : U64 a1) (h2 : U64 b0) (h3 : U64 b1) (h : wv a0 a1 + wv b0 b1 < 340282366920938463463374607431768211456) :
    wide_Add.f a0 a1 b0 b1 = some ((wv a0 a1 + wv b0 b1) / 18446744073709551616, (wv a0 a1 + wv b0 b1) % 18446744073709551616, 0) := by
  obtain ⟨_, _⟩ := h0; obtain ⟨_, _⟩ := h1; obtain ⟨_, _⟩ := h2; obtain ⟨_, _⟩ := h3
  unfold wv at *
  unfold wide_Add.f bits_Add64.f
  rw [if_pos ⟨by omega, by omega, by omega, by omega⟩]
  simp only [Option.bind_some]
  rw [if_pos ⟨by omega, by omega, by omega, by omega⟩]
  simp only [Option.bind_some]
  rw [if_pos (by omega)]
  congr 3 <;> omega
theorem wide_Add_err (h0 : U64 a0) (h1 : U64 a1) (h2 : U64 b0) (h3 : U64 b1) (h : 340282366920938463463374607431768211456 ≤ wv a0 a1 + wv b0 b1) :
    wide_Add.f a0 a1 b0 b1 = some (0, 0, 16) := by
  obtain ⟨_, _⟩ := h0; obtain ⟨_, _⟩ := h1; obtain ⟨_, _⟩ := h2; obtain ⟨_, _⟩ := h3
  unfold wv at *
  unfold wide_Add.f bits_Add64.f
  rw [if_pos ⟨by omega, by omega, by omega, by omega⟩]
  simp only [Option.bind_some]
  rw [if_pos ⟨by omega, by omega, by omega, by omega⟩]
  simp only [Option.bind_some]
  rw [if_neg (by omega)]
theorem wide_Sub_ok (h0 : U64 a0) (h1 : U64 a1) (h2 : U64 b0) (h3 : U64 b1) (h : wv b0 b1 ≤ wv a0 a1) :
    wide_Sub.f a0 a1 b0 b1 = some ((wv a0 a1 - wv b0 b1) / 18446744073709551616, (wv a0 a1 - wv b0 b1) % 18446744073709551616, 0) := by
  obtain ⟨_, _⟩ := h0; obtain ⟨_, _⟩ := h1; obtain ⟨_, _⟩ := h2; obtain ⟨_, _⟩ := h3
  unfold wv at *
  unfold wide_Sub.f bits_Sub64.f
  by_cases c : a1 < b1 + 0
  · rw [if_pos ⟨by omega, by omega, by omega, by omega, by omega⟩, if_pos c]
    simp only [Option.bind_some]
    rw [if_pos ⟨by omega, by omega, by omega, by omega, by omega⟩, if_neg (by omega)]
    simp only [Option.bind_some, ↓reduceIte]
    congr 3 <;> omega
  · rw [if_pos ⟨by omega, by omega, by omega, by omega, by omega⟩, if_neg c]
    simp only [Option.bind_some]
    rw [if_pos ⟨by omega, by omega, by omega, by omega, by omega⟩, if_neg (by omega)]
    simp only [Option.bind_some, ↓reduceIte]
    congr 3 <;> omega
theorem wide_Sub_err (h0 : U64 a0) (h1 : U64 a1) (h2 : U64 b0) (h3 : U64 b1) (h : wv a0 a1 < wv b0 b1) :
    wide_Sub.f a0 a1 b0 b1 = some (0, 0, 16) := by
  obtain ⟨_, _⟩ := h0; obtain ⟨_, _⟩ := h1; obtain ⟨_, _⟩ := h2; obtain ⟨_, _⟩ := h3
  unfold wv at *
  unfold wide_Sub.f bits_Sub64.f
  by_cases c : a1 < b1 + 0
  · rw [if_pos ⟨by omega, by omega, by omega, by omega, by omega⟩, if_pos c]
    simp only [Option.bind_some]
    rw [if_pos ⟨by omega, by omega, by omega, by omega, by omega⟩, if_pos (by omega)]
    simp only [Option.bind_some]
    rw [if_neg (by omega)]
  · rw [if_pos ⟨by omega, by omega, by omega, by omega, by omega⟩, if_neg c]
    simp only [Option.bind_some]
    rw [if_pos ⟨by omega, by omega, by omega, by omega, by omega⟩, if_pos (by omega)]
    simp only [Option.bind_some]
    rw [if_neg (by omega)]
theorem wide_Small_ok (h0 : a0 = 0) : wide_Small.f a0 a1 = some (a1, 0) := by unfold wide_Small.f; rw [if_pos h0]
theorem wide_Small_err (h0 : a0 ≠ 0) : wide_Small.f a0 a1 = some (0, 16) := by unfold wide_Small.f; rw [if_neg h0]
theorem wide_Of_ok : wide_Of.f a0 = some (0, a0) := rfl
/-- The order of two numbers. -/
def wcmp (a b : Int) : Int := if a < b then -1 else if a = b then 0 else 1
theorem wcmp_neg {a b : Int} : wcmp a b < 0 ↔ a < b := by unfold wcmp; split <;> (try split) <;> omega
theorem wcmp_nonneg {a b : Int} : wcmp a b ≥ 0 ↔ b ≤ a := by unfold wcmp; split <;> (try split) <;> omega
theorem wcmp_pos {a b : Int} : wcmp a b > 0 ↔ b < a := by unfold wcmp; split <;> (try split) <;> omega
theorem wcmp_zero {a b : Int} : wcmp a b = 0 ↔ a = b := by unfold wcmp; split <;> (try split) <;> omega
theorem cmp_Compare_ok (a b : Int) : cmp_Compare_uint64.f a b = some (wcmp a b) := by
  unfold cmp_Compare_uint64.f cmp_isNaN_uint64.f wcmp
  have e : ∀ x : Int, (x != x) = false := fun x => by simp
  simp only [e, Option.bind_some]
  rw [if_neg (by decide), if_neg (by decide)]
  by_cases c : a < b
  · rw [if_pos c, if_pos c]
  · rw [if_neg c, if_neg c]
    by_cases d : a > b
    · rw [if_pos d, if_neg (by omega)]
    · rw [if_neg d, if_pos (by omega)]
theorem w01 : wrap64 (0 + 1) = 1 := by unfold wrap64; omega
theorem w11 : wrap64 (1 + 1) = 2 := by unfold wrap64; omega
theorem cmp_Or_two (k : Nat) (x y : Int) : cmp_Or_int.f (k + 3) [x, y] = some (if x = 0 then y else x) := by
  unfold cmp_Or_int.f
  simp only [cmp_Or_int.l0, List.length_cons, List.length_nil, w01, w11]
  have e0 : rd [x, y] 0 = x := rfl
  have e1 : rd [x, y] 1 = y := rfl
  rw [e0, e1, if_pos (by decide), if_pos (by decide), if_pos (by decide)]
  by_cases c : x = 0
  · rw [if_pos c, if_pos c, if_pos (by decide), if_pos (by decide), if_pos (by decide)]
    by_cases d : y = 0
    · rw [if_pos d, if_neg (by decide), d]
    · rw [if_neg d]
  · rw [if_neg c, if_neg c]
theorem wide_Cmp_ok (k : Nat) (h1 : U64 a1) (h3 : U64 b1) : wide_Cmp.f (k + 3) a0 a1 b0 b1 = some (wcmp (wv a0 a1) (wv b0 b1)) := by
  obtain ⟨_, _⟩ := h1; obtain ⟨_, _⟩ := h3
  unfold wide_Cmp.f
  rw [cmp_Compare_ok, cmp_Compare_ok]
  simp only [Option.bind_some, cmp_Or_two]
  congr 1
  unfold wcmp wv
  split <;> (try split) <;> (try split) <;> (try split) <;> (try split) <;> (try split) <;> omega
theorem ref_Cmp_ok (k : Nat) (h1 : U64 a1) (h3 : U64 b1) : spigotref01_Cmp.f (k + 1) a0 a1 b0 b1 = some (wcmp (wv a0 a1) (wv b0 b1)) := by
  obtain ⟨_, _⟩ := h1; obtain ⟨_, _⟩ := h3
  unfold spigotref01_Cmp.f
  simp only [spigotref01_Cmp.j0]
  unfold wcmp wv
  by_cases c : a0 < b0
  · rw [if_pos c]
    simp only [↓reduceIte]
    rw [if_pos (by omega)]
  · rw [if_neg c]
    by_cases d : a0 = b0
    · rw [if_pos d]
      by_cases e : a1 < b1
      · simp only [decide_eq_true e, ↓reduceIte]
        rw [if_pos (by omega)]
      · simp only [decide_eq_false e, Bool.false_eq_true, ↓reduceIte]
        rw [if_neg (c := a0 * 18446744073709551616 + a1 < b0 * 18446744073709551616 + b1) (by omega)]
        by_cases f : a1 = b1
        · rw [if_pos (by simp [d, f]), if_pos (by omega)]
        · rw [if_neg (by simp [d, f]), if_neg (by omega)]
    · simp only [if_neg d, Bool.false_eq_true, ↓reduceIte]
      rw [if_neg (by simp [d]), if_neg (by omega), if_neg (by omega)]
theorem ref_Add_ok (h0 : U64 a0) (h1 : U64 a1) (h2 : U64 b0) (h3 : U64 b1) : spigotref01_Add.f a0 a1 b0 b1 = wide_Add.f a0 a1 b0 b1 := by
  have g0 := h0; have g1 := h1; have g2 := h2; have g3 := h3
  obtain ⟨_, _⟩ := g0; obtain ⟨_, _⟩ := g1; obtain ⟨_, _⟩ := g2; obtain ⟨_, _⟩ := g3
  unfold spigotref01_Add.f
  simp only [wrap_u64]
  by_cases o : wv a0 a1 + wv b0 b1 < 340282366920938463463374607431768211456
  · rw [wide_Add_ok h0 h1 h2 h3 o]
    unfold wv at *
    by_cases c : b1 > (18446744073709551615 - a1) % 18446744073709551616
    · rw [if_pos c, if_neg (by omega), if_neg (by omega)]
      congr 3 <;> omega
    · rw [if_neg c, if_neg (by omega)]
      congr 3 <;> omega
  · rw [wide_Add_err h0 h1 h2 h3 (by omega)]
    unfold wv at *
    by_cases c : b1 > (18446744073709551615 - a1) % 18446744073709551616
    · rw [if_pos c]
      by_cases d : b0 > (18446744073709551615 - a0) % 18446744073709551616
      · rw [if_pos d]
      · rw [if_neg d, if_pos (by omega)]
    · rw [if_neg c, if_pos (by omega)]
theorem ref_Less_ok (h0 : U64 a0) (h1 : U64 a1) (h2 : U64 b0) (h3 : U64 b1) (h : wv b0 b1 ≤ wv a0 a1) :
    spigotref01_Less.f a0 a1 b0 b1 = some ((wv a0 a1 - wv b0 b1) / 18446744073709551616, (wv a0 a1 - wv b0 b1) % 18446744073709551616) := by
  obtain ⟨_, _⟩ := h0; obtain ⟨_, _⟩ := h1; obtain ⟨_, _⟩ := h2; obtain ⟨_, _⟩ := h3
  unfold wv at *
  unfold spigotref01_Less.f
  simp only [wrap_u64]
  split <;> congr 2 <;> omega
end
section
variable {a0 a1 b0 b1 : Int}
theorem wide_Add_some (h0 : U64 a0) (h1 : U64 a1) (h2 : U64 b0) (h3 : U64 b1) : ∃ r, wide_Add.f a0 a1 b0 b1 = some r := by
  by_cases o : wv a0 a1 + wv b0 b1 < 340282366920938463463374607431768211456
  · exact ⟨_, wide_Add_ok h0 h1 h2 h3 o⟩
  · exact ⟨_, wide_Add_err h0 h1 h2 h3 (by omega)⟩
theorem wide_Sub_some (h0 : U64 a0) (h1 : U64 a1) (h2 : U64 b0) (h3 : U64 b1) : ∃ r, wide_Sub.f a0 a1 b0 b1 = some r := by
  by_cases o : wv b0 b1 ≤ wv a0 a1
  · exact ⟨_, wide_Sub_ok h0 h1 h2 h3 o⟩
  · exact ⟨_, wide_Sub_err h0 h1 h2 h3 (by omega)⟩
theorem wide_Small_some : ∃ r, wide_Small.f a0 a1 = some r := by
  by_cases o : a0 = 0
  · exact ⟨_, wide_Small_ok o⟩
  · exact ⟨_, wide_Small_err o⟩
end
end Go.Proofs.Ytmfkedeaifdfdaa.X
