/- bits of a number of 128 bits, and a division bit by bit. -/
import Derived.Test.YtmfkedeaifdfdaaMath
namespace Go.Proofs.Ytmfkedeaifdfdaa.X
open Go.RowKit Go.Proofs.YtmfkedeaifdfdaaW.PrintWords Go.Proofs.YtmfkedeaifdfdaaW.PrintLast Go.Proofs.YtmfkedeaifdfdaaW.PrintMore
set_option linter.unusedVariables false
set_option linter.unusedSimpArgs false

theorem half (P : Int) (i : Nat) : P / 2 ^ i = 2 * (P / 2 ^ (i + 1)) + P / 2 ^ i % 2 := by
  have : P / 2 ^ (i + 1) = P / 2 ^ i / 2 := by rw [Int.pow_succ, Int.ediv_ediv_of_nonneg (Int.le_of_lt (two_pow_pos i))]
  rw [this]
  omega
theorem bit_hi (h l : Int) (i : Nat) (h0 : 0 ≤ l) (h1 : l < 18446744073709551616) : (h * 18446744073709551616 + l) / 2 ^ (64 + i) = h / 2 ^ i := by
  rw [Int.pow_add, ← Int.ediv_ediv_of_nonneg (Int.le_of_lt (two_pow_pos 64))]
  congr 1
  rw [show ((2 : Int) ^ 64) = 18446744073709551616 from rfl]
  omega
theorem bit_lo (h l : Int) (i : Nat) (hi : i < 64) : (h * 18446744073709551616 + l) / 2 ^ i % 2 = l / 2 ^ i % 2 := by
  have e : h * 18446744073709551616 = h * 2 ^ (63 - i) * 2 * 2 ^ i := by
    rw [Int.mul_assoc, Int.mul_assoc, show ((2 : Int) * 2 ^ i) = 2 ^ (i + 1) from by rw [Int.pow_succ, Int.mul_comm], two_pow_split (63 - i) (i + 1) 64 (by omega)]
    rfl
  rw [e, Int.add_comm, Int.add_mul_ediv_right _ _ (by have := two_pow_pos i; omega)]
  omega
theorem shr_ok (x : Int) (i : Int) (h0 : 0 ≤ i) (h1 : i ≤ 63) : shr .u64 x i = x / 2 ^ i.toNat := by
  unfold shr
  rw [show (min i.toNat IntKind.u64.bits) = i.toNat by simp [IntKind.bits] <;> omega]
/-- One digit of a quotient to the base 2. -/
theorem digit_step {n n' D b : Int} (hD : 0 < D) (hn : n' = 2 * n + b) (b0 : 0 ≤ b) (b1 : b ≤ 1) :
    (2 * (n % D) + b ≥ D → n' / D = 2 * (n / D) + 1 ∧ n' % D = 2 * (n % D) + b - D) ∧ (2 * (n % D) + b < D → n' / D = 2 * (n / D) ∧ n' % D = 2 * (n % D) + b) := by
  obtain ⟨r1, r2, r3⟩ := div_rest (n := n) hD
  refine ⟨fun h => ?_, fun h => ?_⟩
  · have e : (2 * (n / D) + 1) * D = 2 * (n / D * D) + D := by rw [Int.add_mul, Int.one_mul, Int.mul_assoc]
    obtain ⟨z1, z2⟩ := div_uniq (n := n') (y := D) (q := 2 * (n / D) + 1) (by omega) (by omega)
    exact ⟨z1, by omega⟩
  · have e : (2 * (n / D)) * D = 2 * (n / D * D) := by rw [Int.mul_assoc]
    obtain ⟨z1, z2⟩ := div_uniq (n := n') (y := D) (q := 2 * (n / D)) (by omega) (by omega)
    exact ⟨z1, by omega⟩
theorem or_bit {a b : Int} (h0 : 0 ≤ a) (h1 : a < 9223372036854775808) (b0 : 0 ≤ b) (b1 : b ≤ 1) : Go.bits .or .u64 (2 * a) b = 2 * a + b :=
  bits_join .u64 64 (by decide) (fun n x y => wrap_id ⟨x, y⟩) 1 _ _ (by omega) (by show _ % (2 : Int) = 0; omega) (by show _ < (18446744073709551616 : Int); omega) b0 (by show _ < (2 : Int); omega) (by show _ < (18446744073709551616 : Int); omega)
end Go.Proofs.Ytmfkedeaifdfdaa.X
