/- CurveGrows, and what it needs. -/
import Derived.Test.YtimhghmfhfggoaaX0
import Derived.Test.YtimhghmfhfggoaaX3
import Derived.Test.YtimhghmfhfggoaaX4
import Derived.Test.YtimhghmfhfggoaaX5
import Derived.Test.YtimhghmfhfggoaaX6
import Derived.Test.YtimhghmfhfggoaaX7
import Derived.Test.YtimhghmfhfggoaaX8
import Derived.Test.YtimhghmfhfggoaaX9
import Derived.Test.YtimhghmfhfggoaaX10
import Derived.Test.YtimhghmfhfggoaaX11
import Derived.Test.YtimhghmfhfggoaaX12
import Derived.Test.YtimhghmfhfggoaaX13
import Derived.Test.YtimhghmfhfggoaaX14
import Derived.Test.YtimhghmfhfggoaaX15
import Derived.Test.YtimhghmfhfggoaaX16
import Derived.Test.YtimhghmfhfggoaaX26
import Derived.Test.YtimhghmfhfggoaaX28
import Derived.Test.YtimhghmfhfggoaaX29
import Derived.Test.YtimhghmfhfggoaaX30
import Derived.Test.YtimhghmfhfggoaaX35
import Derived.Test.YtimhghmfhfggoaaX37
import Derived.Test.YtimhghmfhfggoaaMath
namespace Go.Proofs.Ytimhghmfhfggoaa.X
open Go.RowKit Go.Proofs.YtimhghmfhfggoaaW.PrintWords Go.Proofs.YtimhghmfhfggoaaW.PrintLast Go.Proofs.YtimhghmfhfggoaaW.PrintMore
set_option linter.unusedVariables false
set_option linter.unusedSimpArgs false

theorem wj {j : Nat} (h : j < 9223372036854775807) : wrap64 ((j : Int) + 1) = ((j + 1 : Nat) : Int) := by unfold wrap64; omega
/-- From the table: how many bits a byte needs. -/
theorem tab_byte (b : Nat) (hb : b < 256) (h0 : 0 < b) : ∃ t : Nat, 1 ≤ t ∧ t ≤ 8 ∧ 2 ^ (t - 1) ≤ b ∧ b < 2 ^ t ∧ bt (⟨#[0, 1, 2, 2, 3, 3, 3, 3, 4, 4, 4, 4, 4, 4, 4, 4, 5, 5, 5, 5, 5, 5, 5, 5, 5, 5, 5, 5, 5, 5, 5, 5, 6, 6, 6, 6, 6, 6, 6, 6, 6, 6, 6, 6, 6, 6, 6, 6, 6, 6, 6, 6, 6, 6, 6, 6, 6, 6, 6, 6, 6, 6, 6, 6, 7, 7, 7, 7, 7, 7, 7, 7, 7, 7, 7, 7, 7, 7, 7, 7, 7, 7, 7, 7, 7, 7, 7, 7, 7, 7, 7, 7, 7, 7, 7, 7, 7, 7, 7, 7, 7, 7, 7, 7, 7, 7, 7, 7, 7, 7, 7, 7, 7, 7, 7, 7, 7, 7, 7, 7, 7, 7, 7, 7, 7, 7, 7, 7, 8, 8, 8, 8, 8, 8, 8, 8, 8, 8, 8, 8, 8, 8, 8, 8, 8, 8, 8, 8, 8, 8, 8, 8, 8, 8, 8, 8, 8, 8, 8, 8, 8, 8, 8, 8, 8, 8, 8, 8, 8, 8, 8, 8, 8, 8, 8, 8, 8, 8, 8, 8, 8, 8, 8, 8, 8, 8, 8, 8, 8, 8, 8, 8, 8, 8, 8, 8, 8, 8, 8, 8, 8, 8, 8, 8, 8, 8, 8, 8, 8, 8, 8, 8, 8, 8, 8, 8, 8, 8, 8, 8, 8, 8, 8, 8, 8, 8, 8, 8, 8, 8, 8, 8, 8, 8, 8, 8, 8, 8, 8, 8, 8, 8, 8, 8, 8, 8, 8, 8, 8, 8, 8, 8, 8, 8, 8, 8]⟩ : ByteArray) (b : Int) = (t : Int) := by
  have h : ∀ b : Fin 256, 0 < b.val → ∃ t : Fin 9, 1 ≤ t.val ∧ 2 ^ (t.val - 1) ≤ b.val ∧ b.val < 2 ^ t.val ∧ bt (⟨#[0, 1, 2, 2, 3, 3, 3, 3, 4, 4, 4, 4, 4, 4, 4, 4, 5, 5, 5, 5, 5, 5, 5, 5, 5, 5, 5, 5, 5, 5, 5, 5, 6, 6, 6, 6, 6, 6, 6, 6, 6, 6, 6, 6, 6, 6, 6, 6, 6, 6, 6, 6, 6, 6, 6, 6, 6, 6, 6, 6, 6, 6, 6, 6, 7, 7, 7, 7, 7, 7, 7, 7, 7, 7, 7, 7, 7, 7, 7, 7, 7, 7, 7, 7, 7, 7, 7, 7, 7, 7, 7, 7, 7, 7, 7, 7, 7, 7, 7, 7, 7, 7, 7, 7, 7, 7, 7, 7, 7, 7, 7, 7, 7, 7, 7, 7, 7, 7, 7, 7, 7, 7, 7, 7, 7, 7, 7, 7, 8, 8, 8, 8, 8, 8, 8, 8, 8, 8, 8, 8, 8, 8, 8, 8, 8, 8, 8, 8, 8, 8, 8, 8, 8, 8, 8, 8, 8, 8, 8, 8, 8, 8, 8, 8, 8, 8, 8, 8, 8, 8, 8, 8, 8, 8, 8, 8, 8, 8, 8, 8, 8, 8, 8, 8, 8, 8, 8, 8, 8, 8, 8, 8, 8, 8, 8, 8, 8, 8, 8, 8, 8, 8, 8, 8, 8, 8, 8, 8, 8, 8, 8, 8, 8, 8, 8, 8, 8, 8, 8, 8, 8, 8, 8, 8, 8, 8, 8, 8, 8, 8, 8, 8, 8, 8, 8, 8, 8, 8, 8, 8, 8, 8, 8, 8, 8, 8, 8, 8, 8, 8, 8, 8, 8, 8, 8, 8]⟩ : ByteArray) (b.val : Int) = (t.val : Int) := by decide +kernel
  obtain ⟨t, h1, h2, h3, h4⟩ := h ⟨b, hb⟩ h0
  exact ⟨t.val, h1, by omega, h2, h3, h4⟩
/-- How many bits a number needs, behind a shift by m. -/
theorem bits_shift {x b : Int} {t m : Nat} (hb : b = x / 2 ^ m) (h1 : 1 ≤ t) (h2 : (2 : Int) ^ (t - 1) ≤ b) (h3 : b < 2 ^ t) : (2 : Int) ^ (t + m - 1) ≤ x ∧ x < 2 ^ (t + m) := by
  subst hb
  obtain ⟨d1, d2⟩ := div_bd (n := x) (two_pow_pos m)
  have e1 := two_pow_split (t - 1) m (t + m - 1) (by omega)
  have e2 := two_pow_split t m (t + m) rfl
  have k1 := Int.mul_le_mul_of_nonneg_right h2 (Int.le_of_lt (two_pow_pos m))
  have k2 : x / 2 ^ m * 2 ^ m + 2 ^ m ≤ 2 ^ t * 2 ^ m := by
    have : (x / 2 ^ m + 1) * 2 ^ m ≤ 2 ^ t * 2 ^ m := Int.mul_le_mul_of_nonneg_right (by omega) (Int.le_of_lt (two_pow_pos m))
    rw [Int.add_mul, Int.one_mul] at this
    exact this
  omega
set_option maxRecDepth 100000 in
theorem Len64_j0 (k : Nat) (x o : Int) (m : Nat) (ho : o = m) (hm : m ≤ 32) (h0 : 0 < x) (h1 : x < 4294967296) :
    ∃ t : Nat, 1 ≤ t ∧ t ≤ 32 ∧ bits_Len64.j0 (k + 1) x o = some ((t + m : Nat) : Int) ∧ (2 : Int) ^ (t - 1) ≤ x ∧ x < 2 ^ t := by
  rw [bits_Len64.j0]
  have key : ∀ (b : Int) (s : Nat), b = x / 2 ^ s → 0 < b → b < 256 → s ≤ 24 → ∃ t : Nat, 1 ≤ t ∧ t ≤ 8 ∧ bt (⟨#[0, 1, 2, 2, 3, 3, 3, 3, 4, 4, 4, 4, 4, 4, 4, 4, 5, 5, 5, 5, 5, 5, 5, 5, 5, 5, 5, 5, 5, 5, 5, 5, 6, 6, 6, 6, 6, 6, 6, 6, 6, 6, 6, 6, 6, 6, 6, 6, 6, 6, 6, 6, 6, 6, 6, 6, 6, 6, 6, 6, 6, 6, 6, 6, 7, 7, 7, 7, 7, 7, 7, 7, 7, 7, 7, 7, 7, 7, 7, 7, 7, 7, 7, 7, 7, 7, 7, 7, 7, 7, 7, 7, 7, 7, 7, 7, 7, 7, 7, 7, 7, 7, 7, 7, 7, 7, 7, 7, 7, 7, 7, 7, 7, 7, 7, 7, 7, 7, 7, 7, 7, 7, 7, 7, 7, 7, 7, 7, 8, 8, 8, 8, 8, 8, 8, 8, 8, 8, 8, 8, 8, 8, 8, 8, 8, 8, 8, 8, 8, 8, 8, 8, 8, 8, 8, 8, 8, 8, 8, 8, 8, 8, 8, 8, 8, 8, 8, 8, 8, 8, 8, 8, 8, 8, 8, 8, 8, 8, 8, 8, 8, 8, 8, 8, 8, 8, 8, 8, 8, 8, 8, 8, 8, 8, 8, 8, 8, 8, 8, 8, 8, 8, 8, 8, 8, 8, 8, 8, 8, 8, 8, 8, 8, 8, 8, 8, 8, 8, 8, 8, 8, 8, 8, 8, 8, 8, 8, 8, 8, 8, 8, 8, 8, 8, 8, 8, 8, 8, 8, 8, 8, 8, 8, 8, 8, 8, 8, 8, 8, 8, 8, 8, 8, 8, 8, 8]⟩ : ByteArray) b = (t : Int) ∧ (2 : Int) ^ (t + s - 1) ≤ x ∧ x < 2 ^ (t + s) := by
    intro b s hb b0 b1 hs
    obtain ⟨c, rfl⟩ := Int.eq_ofNat_of_zero_le (Int.le_of_lt b0)
    obtain ⟨t, t1, t2, t3, t4, t5⟩ := tab_byte c (by omega) (by omega)
    obtain ⟨e1, e2⟩ := bits_shift (x := x) (b := c) (t := t) (m := s) hb t1 (by exact_mod_cast t3) (by exact_mod_cast t4)
    exact ⟨t, t1, t2, t5, e1, e2⟩
  by_cases c1 : x ≥ 65536
  · rw [if_pos c1]
    by_cases c2 : x / 65536 ≥ 256
    · rw [if_pos c2, if_pos (by omega), if_pos (by omega)]
      obtain ⟨t, t1, t2, t3, t4, t5⟩ := key (x / 65536 / 256 % 256) 24 (by rw [Int.emod_eq_of_lt (by omega) (by omega), show ((2 : Int) ^ 24) = 16777216 from rfl]; omega) (by omega) (by omega) (by omega)
      refine ⟨t + 24, by omega, by omega, ?_, t4, t5⟩
      rw [t3, ho, wrap64_id (x := (m : Int) + 16) (by omega) (by omega), wrap64_id (x := (m : Int) + 16 + 8) (by omega) (by omega), wrap64_id (x := (t : Int)) (by omega) (by omega), wrap64_id (by omega) (by omega)]
      congr 1
      omega
    · rw [if_neg c2, if_pos (by omega), if_pos (by omega)]
      obtain ⟨t, t1, t2, t3, t4, t5⟩ := key (x / 65536 % 256) 16 (by rw [Int.emod_eq_of_lt (by omega) (by omega), show ((2 : Int) ^ 16) = 65536 from rfl]) (by omega) (by omega) (by omega)
      refine ⟨t + 16, by omega, by omega, ?_, t4, t5⟩
      rw [t3, ho, wrap64_id (x := (m : Int) + 16) (by omega) (by omega), wrap64_id (x := (t : Int)) (by omega) (by omega), wrap64_id (by omega) (by omega)]
      congr 1
      omega
  · rw [if_neg c1]
    by_cases c2 : x ≥ 256
    · rw [if_pos c2, if_pos (by omega), if_pos (by omega)]
      obtain ⟨t, t1, t2, t3, t4, t5⟩ := key (x / 256 % 256) 8 (by rw [Int.emod_eq_of_lt (by omega) (by omega), show ((2 : Int) ^ 8) = 256 from rfl]) (by omega) (by omega) (by omega)
      refine ⟨t + 8, by omega, by omega, ?_, t4, t5⟩
      rw [t3, ho, wrap64_id (x := (m : Int) + 8) (by omega) (by omega), wrap64_id (x := (t : Int)) (by omega) (by omega), wrap64_id (by omega) (by omega)]
      congr 1
      omega
    · rw [if_neg c2, if_pos (by omega), if_pos (by omega)]
      obtain ⟨t, t1, t2, t3, t4, t5⟩ := key (x % 256) 0 (by rw [Int.emod_eq_of_lt (by omega) (by omega)]; simp) (by omega) (by omega) (by omega)
      refine ⟨t, by omega, by omega, ?_, t4, t5⟩
      rw [t3, ho, wrap64_id (x := (t : Int)) (by omega) (by omega), wrap64_id (by omega) (by omega)]
      congr 1
      omega
theorem Len64_ok (k : Nat) (x : Int) (h0 : 0 < x) (h1 : x < 18446744073709551616) :
    ∃ t : Nat, 1 ≤ t ∧ t ≤ 64 ∧ bits_Len64.f (k + 1) x = some (t : Int) ∧ (2 : Int) ^ (t - 1) ≤ x ∧ x < 2 ^ t := by
  unfold bits_Len64.f
  by_cases c : x ≥ 4294967296
  · rw [if_pos c]
    obtain ⟨t, t1, t2, t3, t4, t5⟩ := Len64_j0 k (x / 4294967296) 32 32 rfl (by omega) (by omega) (by omega)
    obtain ⟨e1, e2⟩ := bits_shift (x := x) (b := x / 4294967296) (t := t) (m := 32) (by rw [show ((2 : Int) ^ 32) = 4294967296 from rfl]) t1 t4 t5
    exact ⟨t + 32, by omega, by omega, t3, e1, e2⟩
  · rw [if_neg c]
    obtain ⟨t, t1, t2, t3, t4, t5⟩ := Len64_j0 k x 0 0 rfl (by omega) h0 (by omega)
    exact ⟨t, by omega, by omega, t3, t4, t5⟩
theorem LeadingZeros64_ok (k : Nat) (x : Int) (h0 : 0 < x) (h1 : x < 18446744073709551616) :
    ∃ s : Nat, s ≤ 63 ∧ bits_LeadingZeros64.f (k + 1) x = some (s : Int) ∧ (9223372036854775808 : Int) ≤ x * 2 ^ s ∧ x * 2 ^ s < 18446744073709551616 := by
  obtain ⟨t, t1, t2, t3, t4, t5⟩ := Len64_ok k x h0 h1
  refine ⟨64 - t, by omega, ?_, ?_, ?_⟩
  · unfold bits_LeadingZeros64.f
    rw [t3]
    simp only [Option.bind_some]
    rw [wrap64_id (by omega) (by omega)]
    congr 1
    omega
  · have e := two_pow_split (t - 1) (64 - t) 63 (by omega)
    have k1 := Int.mul_le_mul_of_nonneg_right t4 (Int.le_of_lt (two_pow_pos (64 - t)))
    rw [e] at k1
    exact k1
  · have e := two_pow_split t (64 - t) 64 (by omega)
    have k1 := Int.mul_lt_mul_of_pos_right t5 (two_pow_pos (64 - t))
    rw [e] at k1
    exact k1

/-! #### the loops of Div64: a guessed digit is lowered until it is the digit -/
section
variable {y yn1 yn0 u v q r : Int}
theorem kn_eq (hy : y = yn1 * 4294967296 + yn0) : q * y = q * yn1 * 4294967296 + q * yn0 := by rw [hy, Int.mul_add, Int.mul_assoc]
theorem kn_dec (hy : y = yn1 * 4294967296 + yn0) (hu0 : 0 ≤ u) (hu : u < y) (hv0 : 0 ≤ v) (hv : v < 4294967296) (hq : u = q * yn1 + r) (hq0 : 0 ≤ q) (hc : q ≥ 4294967296 ∨ q * yn0 > 4294967296 * r + v) : u * 4294967296 + v < q * y ∧ 1 ≤ q := by
  have e := kn_eq (q := q) hy
  have h : u * 4294967296 + v < q * y := by
    rcases hc with h | h
    · have := Int.mul_le_mul_of_nonneg_right h (by omega : 0 ≤ y)
      omega
    · omega
  refine ⟨h, ?_⟩
  rcases Int.lt_or_le 0 q with h' | h'
  · omega
  · have : q = 0 := by omega
    subst this
    rw [Int.zero_mul] at h
    omega
theorem kn_low (hy : y = yn1 * 4294967296 + yn0) (hu : u < y) (hu0 : 0 ≤ u) (hv : v < 4294967296) (hq : q * y ≤ u * 4294967296 + v) : q < 4294967296 := by
  rcases Int.lt_or_le q 4294967296 with h | h
  · exact h
  · have := Int.mul_le_mul_of_nonneg_right h (by omega : 0 ≤ y)
    omega
theorem kn_brk (hy : y = yn1 * 4294967296 + yn0) (h2 : 0 ≤ yn0) (h2' : yn0 < 4294967296) (hv0 : 0 ≤ v) (hq : u = q * yn1 + r) (hq0 : 0 ≤ q) (hq1 : q ≤ 4294967296) (hr : 4294967296 ≤ r) : q * y ≤ u * 4294967296 + v := by
  have e := kn_eq (q := q) hy
  have h := (mul_bd hq0 hq1 h2 (by omega : yn0 ≤ 4294967295)).2
  omega
end

theorem Div64_l0 (y s yn1 yn0 u v un0 : Int) (hy : y = yn1 * 4294967296 + yn0) (h1 : 2147483648 ≤ yn1) (h1' : yn1 < 4294967296) (h2 : 0 ≤ yn0) (h2' : yn0 < 4294967296) (hu0 : 0 ≤ u) (hu : u < y) (hv0 : 0 ≤ v) (hv : v < 4294967296) :
    ∀ (d k : Nat) (q r : Int), 2 * d + 2 ≤ k → 4294967296 ≤ r + d * 2147483648 → 0 ≤ r → r < 4294967296 → u = q * yn1 + r → 0 ≤ q → q ≤ 4294967297 → u * 4294967296 + v < q * y + y →
    ∃ k' q', k ≤ k' + (2 * d + 2) ∧ bits_Div64.l0 k y s yn1 yn0 u v un0 q r = bits_Div64.j2 k' y s yn1 yn0 u v un0 q' ∧ 0 ≤ q' ∧ q' < 4294967296 ∧ q' * y ≤ u * 4294967296 + v ∧ u * 4294967296 + v < q' * y + y := by
  intro d
  induction d with
  | zero => intro k q r _ h; intros; omega
  | succ d ih =>
    intro k q r hk hd hr0 hr hq hq0 hq1 hlt
    obtain ⟨k, rfl⟩ : ∃ m, k = m + 2 := ⟨k - 2, by omega⟩
    have dec : q ≥ 4294967296 ∨ q * yn0 > 4294967296 * r + v → ∃ k' q', k + 2 ≤ k' + (2 * (d + 1) + 2) ∧ bits_Div64.j1 (k + 1) y s yn1 yn0 u v un0 q r true = bits_Div64.j2 k' y s yn1 yn0 u v un0 q' ∧ 0 ≤ q' ∧ q' < 4294967296 ∧ q' * y ≤ u * 4294967296 + v ∧ u * 4294967296 + v < q' * y + y := by
      intro hc
      obtain ⟨g1, g2⟩ := kn_dec hy hu0 hu hv0 hv hq hq0 hc
      have e1 : (q - 1) * y = q * y - y := by rw [Int.sub_mul, Int.one_mul]
      have e2 : (q - 1) * yn1 = q * yn1 - yn1 := by rw [Int.sub_mul, Int.one_mul]
      simp only [bits_Div64.j1, ↓reduceIte]
      rw [wrap_id (x := q - 1) ⟨by omega, by omega⟩, wrap_id (x := r + yn1) ⟨by omega, by omega⟩]
      by_cases c : r + yn1 ≥ 4294967296
      · rw [if_pos c]
        have b := kn_brk (q := q - 1) (r := r + yn1) (u := u) (v := v) hy h2 h2' hv0 (by omega) (by omega) (by omega) c
        exact ⟨k, q - 1, by omega, rfl, by omega, kn_low hy hu hu0 hv b, b, by omega⟩
      · rw [if_neg c]
        obtain ⟨k', q', a1, a2, a3⟩ := ih k (q - 1) (r + yn1) (by omega) (by omega) (by omega) (by omega) (by omega) (by omega) (by omega) (by omega)
        exact ⟨k', q', by omega, a2, a3⟩
    simp only [bits_Div64.l0]
    by_cases c1 : q ≥ 4294967296
    · rw [if_pos c1]
      exact dec (.inl c1)
    · rw [if_neg c1]
      have b1 := mul_bd hq0 (by omega : q ≤ 4294967295) h2 (by omega : yn0 ≤ 4294967295)
      rw [wrap_id (x := q * yn0) ⟨by omega, by omega⟩, wrap_id (x := 4294967296 * r) ⟨by omega, by omega⟩, wrap_id (x := 4294967296 * r + v) ⟨by omega, by omega⟩]
      by_cases c2 : q * yn0 > 4294967296 * r + v
      · rw [decide_eq_true c2]
        exact dec (.inr c2)
      · rw [decide_eq_false c2]
        simp only [bits_Div64.j1, Bool.false_eq_true, ↓reduceIte]
        have e := kn_eq (q := q) hy
        exact ⟨k, q, by omega, rfl, hq0, by omega, by omega, hlt⟩
theorem Div64_l1 (y s yn1 yn0 u v q1 : Int) (hy : y = yn1 * 4294967296 + yn0) (h1 : 2147483648 ≤ yn1) (h1' : yn1 < 4294967296) (h2 : 0 ≤ yn0) (h2' : yn0 < 4294967296) (hu0 : 0 ≤ u) (hu : u < y) (hv0 : 0 ≤ v) (hv : v < 4294967296) (hs : 0 ≤ s) :
    ∀ (d k : Nat) (q r : Int), 2 * d + 2 ≤ k → 4294967296 ≤ r + d * 2147483648 → 0 ≤ r → r < 4294967296 → u = q * yn1 + r → 0 ≤ q → q ≤ 4294967297 → u * 4294967296 + v < q * y + y →
    ∃ q', bits_Div64.l1 k y s yn1 yn0 v q1 r u q = some (IntKind.u64.wrap (IntKind.u64.wrap (q1 * 4294967296) + q'), shr .u64 (IntKind.u64.wrap (IntKind.u64.wrap (IntKind.u64.wrap (u * 4294967296) + v) - IntKind.u64.wrap (q' * y))) s) ∧ 0 ≤ q' ∧ q' < 4294967296 ∧ q' * y ≤ u * 4294967296 + v ∧ u * 4294967296 + v < q' * y + y := by
  intro d
  induction d with
  | zero => intro k q r _ h; intros; omega
  | succ d ih =>
    intro k q r hk hd hr0 hr hq hq0 hq1 hlt
    obtain ⟨k, rfl⟩ : ∃ m, k = m + 2 := ⟨k - 2, by omega⟩
    have dec : q ≥ 4294967296 ∨ q * yn0 > 4294967296 * r + v → ∃ q', bits_Div64.j4 (k + 1) y s yn1 yn0 v q1 r u q true = some (IntKind.u64.wrap (IntKind.u64.wrap (q1 * 4294967296) + q'), shr .u64 (IntKind.u64.wrap (IntKind.u64.wrap (IntKind.u64.wrap (u * 4294967296) + v) - IntKind.u64.wrap (q' * y))) s) ∧ 0 ≤ q' ∧ q' < 4294967296 ∧ q' * y ≤ u * 4294967296 + v ∧ u * 4294967296 + v < q' * y + y := by
      intro hc
      obtain ⟨g1, g2⟩ := kn_dec hy hu0 hu hv0 hv hq hq0 hc
      have e1 : (q - 1) * y = q * y - y := by rw [Int.sub_mul, Int.one_mul]
      have e2 : (q - 1) * yn1 = q * yn1 - yn1 := by rw [Int.sub_mul, Int.one_mul]
      simp only [bits_Div64.j4, ↓reduceIte]
      rw [wrap_id (x := q - 1) ⟨by omega, by omega⟩, wrap_id (x := r + yn1) ⟨by omega, by omega⟩]
      by_cases c : r + yn1 ≥ 4294967296
      · rw [if_pos c, if_pos hs]
        have b := kn_brk (q := q - 1) (r := r + yn1) (u := u) (v := v) hy h2 h2' hv0 (by omega) (by omega) (by omega) c
        exact ⟨q - 1, rfl, by omega, kn_low hy hu hu0 hv b, b, by omega⟩
      · rw [if_neg c]
        exact ih k (q - 1) (r + yn1) (by omega) (by omega) (by omega) (by omega) (by omega) (by omega) (by omega) (by omega)
    simp only [bits_Div64.l1]
    by_cases c1 : q ≥ 4294967296
    · rw [if_pos c1]
      exact dec (.inl c1)
    · rw [if_neg c1]
      have b1 := mul_bd hq0 (by omega : q ≤ 4294967295) h2 (by omega : yn0 ≤ 4294967295)
      rw [wrap_id (x := q * yn0) ⟨by omega, by omega⟩, wrap_id (x := 4294967296 * r) ⟨by omega, by omega⟩, wrap_id (x := 4294967296 * r + v) ⟨by omega, by omega⟩]
      by_cases c2 : q * yn0 > 4294967296 * r + v
      · rw [decide_eq_true c2]
        exact dec (.inr c2)
      · rw [decide_eq_false c2]
        simp only [bits_Div64.j4, Bool.false_eq_true, ↓reduceIte]
        rw [if_pos hs]
        have e := kn_eq (q := q) hy
        exact ⟨q, rfl, hq0, by omega, by omega, hlt⟩
/-- bits.Div64, where the quotient fits: the quotient and the rest. -/
theorem Div64_ok (k : Nat) (hk : 20 ≤ k) (hi lo y : Int) (h0 : 0 ≤ hi) (hl : U64 lo) (hy : y < 18446744073709551616) (hlt : hi < y) :
    bits_Div64.f k hi lo y = some ((hi * 18446744073709551616 + lo) / y, (hi * 18446744073709551616 + lo) % y) := by
  obtain ⟨hl0, hl1⟩ := hl
  unfold bits_Div64.f
  rw [if_neg (by omega), if_neg (by omega)]
  by_cases c0 : hi = 0
  · subst c0
    rw [if_pos rfl, tdiv_nonneg_eq hl0, tmod_nonneg_eq hl0, wrap_id ⟨div_nonneg hl0 (by omega), ?_⟩]
    · simp
    · have := div_le hl0 (by omega : 0 < y)
      omega
  · rw [if_neg c0]
    obtain ⟨k, rfl⟩ : ∃ m, k = m + 1 := ⟨k - 1, by omega⟩
    obtain ⟨s, s1, s2, s3, s4⟩ := LeadingZeros64_ok k y (by omega) hy
    rw [s2]
    simp only [Option.bind_some]
    have P0 := two_pow_pos s
    have R0 := two_pow_pos (64 - s)
    have PR := two_pow_split s (64 - s) 64 (by omega)
    rw [show ((2 : Int) ^ 64) = 18446744073709551616 from rfl] at PR
    rw [wrap_id (x := (s : Int)) ⟨by omega, by omega⟩, wrap_id (x := 64 - (s : Int)) ⟨by omega, by omega⟩, if_pos (by omega), if_pos (by omega)]
    have es : (min ((s : Int).toNat) IntKind.u64.bits) = s := by simp [IntKind.bits] <;> omega
    have es' : (min ((64 - (s : Int)).toNat) IntKind.u64.bits) = 64 - s := by simp [IntKind.bits] <;> omega
    have eY : shl .u64 y (s : Int) = y * 2 ^ s := by unfold shl; rw [es, wrap_id ⟨by omega, s4⟩]
    have eH0 : hi * 2 ^ s ≤ y * 2 ^ s - 2 ^ s := by
      have := Int.mul_le_mul_of_nonneg_right (by omega : hi + 1 ≤ y) (Int.le_of_lt P0)
      rw [Int.add_mul, Int.one_mul] at this
      omega
    have eH1 : 0 ≤ hi * 2 ^ s := Int.mul_nonneg h0 (Int.le_of_lt P0)
    have eH : shl .u64 hi (s : Int) = hi * 2 ^ s := by unfold shl; rw [es, wrap_id ⟨eH1, by omega⟩]
    have eL : shr .u64 lo (64 - (s : Int)) = lo / 2 ^ (64 - s) := by unfold shr; rw [es']
    have eLl : lo / 2 ^ (64 - s) < 2 ^ s := div_lt R0 (by rw [PR]; exact hl1)
    have eL0 : 0 ≤ lo / 2 ^ (64 - s) := div_nonneg hl0 R0
    have eU : Go.bits .or .u64 (hi * 2 ^ s) (lo / 2 ^ (64 - s)) = hi * 2 ^ s + lo / 2 ^ (64 - s) :=
      bits_join .u64 64 (by decide) (fun n a b => wrap_id ⟨a, b⟩) s _ _ eH1 (Int.mul_emod_left _ _) (by show _ < (18446744073709551616 : Int); omega) eL0 eLl (by show _ < (18446744073709551616 : Int); omega)
    obtain ⟨d1, d2, d3⟩ := div_rest (n := lo) R0
    have eLo : lo * 2 ^ s = lo / 2 ^ (64 - s) * 18446744073709551616 + lo % 2 ^ (64 - s) * 2 ^ s := by
      conv => lhs; rw [← d1, Int.add_mul, Int.mul_assoc, Int.mul_comm (2 ^ (64 - s)), PR]
    have eR1 : lo % 2 ^ (64 - s) * 2 ^ s < 18446744073709551616 := by
      have := Int.mul_lt_mul_of_pos_right d3 P0
      rw [Int.mul_comm (2 ^ (64 - s)), PR] at this
      exact this
    have eR0 : 0 ≤ lo % 2 ^ (64 - s) * 2 ^ s := Int.mul_nonneg d2 (Int.le_of_lt P0)
    have eN : shl .u64 lo (s : Int) = lo % 2 ^ (64 - s) * 2 ^ s := by
      unfold shl
      rw [es, wrap_u64, eLo]
      omega
    have eA : Go.bits .and .u64 (y * 2 ^ s) 4294967295 = y * 2 ^ s % 4294967296 :=
      bits_mask .u64 64 (by decide) (fun n a b => wrap_id ⟨a, b⟩) 32 (by decide) _ (by omega) (by show _ < (18446744073709551616 : Int); omega)
    have eB : Go.bits .and .u64 (lo % 2 ^ (64 - s) * 2 ^ s) 4294967295 = lo % 2 ^ (64 - s) * 2 ^ s % 4294967296 :=
      bits_mask .u64 64 (by decide) (fun n a b => wrap_id ⟨a, b⟩) 32 (by decide) _ eR0 (by show _ < (18446744073709551616 : Int); omega)
    rw [eY, eH, eL, eN, eU, eA, eB]
    have eT : (hi * 18446744073709551616 + lo) * 2 ^ s = (hi * 2 ^ s + lo / 2 ^ (64 - s)) * 18446744073709551616 + lo % 2 ^ (64 - s) * 2 ^ s := by
      rw [Int.add_mul, eLo, Int.add_mul, Int.mul_assoc, Int.mul_comm 18446744073709551616 (2 ^ s), ← Int.mul_assoc]
      omega
    obtain ⟨z1, z2⟩ := div_scale (n := hi * 18446744073709551616 + lo) (y := y) P0 (by omega)
    rw [← z1, eT] at *
    generalize hU : hi * 2 ^ s + lo / 2 ^ (64 - s) = U at *
    generalize hV : lo % 2 ^ (64 - s) * 2 ^ s = V at *
    generalize hY : y * 2 ^ s = Y at *
    have hUY : U < Y := by omega
    have hU0 : 0 ≤ U := by omega
    have y1 : Y = Y / 4294967296 * 4294967296 + Y % 4294967296 := by omega
    rw [if_neg (by omega)]
    have n1 : 0 < Y / 4294967296 := by omega
    obtain ⟨g1, g2, g3⟩ := div_rest (n := U) n1
    have gq : U / (Y / 4294967296) < 4294967298 := div_lt n1 (by omega)
    have gq0 := div_nonneg hU0 n1
    rw [tdiv_nonneg_eq hU0, wrap_id (x := U / (Y / 4294967296)) ⟨gq0, by omega⟩]
    have gp0 : 0 ≤ U / (Y / 4294967296) * (Y / 4294967296) := Int.mul_nonneg gq0 (by omega)
    rw [wrap_id (x := U / (Y / 4294967296) * (Y / 4294967296)) ⟨gp0, by omega⟩, wrap_id (x := U - U / (Y / 4294967296) * (Y / 4294967296)) ⟨by omega, by omega⟩]
    have start : ∀ (u v : Int), 0 ≤ u → u < Y → 0 ≤ v → v < 4294967296 → u * 4294967296 + v < u / (Y / 4294967296) * Y + Y := by
      intro u v hu0 huY hv0 hv
      obtain ⟨f1, f2, f3⟩ := div_rest (n := u) n1
      have e := kn_eq (q := u / (Y / 4294967296)) y1
      have := Int.mul_nonneg (div_nonneg hu0 n1) (by omega : 0 ≤ Y % 4294967296)
      omega
    obtain ⟨k', q1, a1, a2, a3, a4, a5, a6⟩ := Div64_l0 Y s (Y / 4294967296) (Y % 4294967296) U (V / 4294967296) (V % 4294967296) y1 (by omega) (by omega) (by omega) (by omega) hU0 hUY (by omega) (by omega) 2 (k + 1) (U / (Y / 4294967296)) (U - U / (Y / 4294967296) * (Y / 4294967296)) (by omega) (by omega) (by omega) (by omega) (by omega) gq0 (by omega) (start U _ hU0 hUY (by omega) (by omega))
    rw [a2]
    obtain ⟨k', rfl⟩ : ∃ m, k' = m + 1 := ⟨k' - 1, by omega⟩
    simp only [bits_Div64.j2]
    rw [if_neg (by omega)]
    have w1 : IntKind.u64.wrap (IntKind.u64.wrap (IntKind.u64.wrap (U * 4294967296) + V / 4294967296) - IntKind.u64.wrap (q1 * Y)) = U * 4294967296 + V / 4294967296 - q1 * Y := by
      simp only [wrap_u64]
      omega
    rw [w1]
    generalize hu2 : U * 4294967296 + V / 4294967296 - q1 * Y = u2 at *
    obtain ⟨b1, b2, b3⟩ := div_rest (n := u2) n1
    have bq : u2 / (Y / 4294967296) < 4294967298 := div_lt n1 (by omega)
    have bq0 := div_nonneg (by omega : 0 ≤ u2) n1
    rw [tdiv_nonneg_eq (by omega : 0 ≤ u2), wrap_id (x := u2 / (Y / 4294967296)) ⟨bq0, by omega⟩]
    have bp0 : 0 ≤ u2 / (Y / 4294967296) * (Y / 4294967296) := Int.mul_nonneg bq0 (by omega)
    rw [wrap_id (x := u2 / (Y / 4294967296) * (Y / 4294967296)) ⟨bp0, by omega⟩, wrap_id (x := u2 - u2 / (Y / 4294967296) * (Y / 4294967296)) ⟨by omega, by omega⟩]
    obtain ⟨q0, c1, c2, c3, c4, c5⟩ := Div64_l1 Y s (Y / 4294967296) (Y % 4294967296) u2 (V % 4294967296) q1 y1 (by omega) (by omega) (by omega) (by omega) (by omega) (by omega) (by omega) (by omega) (by omega) 2 k' (u2 / (Y / 4294967296)) (u2 - u2 / (Y / 4294967296) * (Y / 4294967296)) (by omega) (by omega) (by omega) (by omega) (by omega) bq0 (by omega) (start u2 _ (by omega) (by omega) (by omega) (by omega))
    rw [c1]
    have eq : (q1 * 4294967296 + q0) * Y = q1 * Y * 4294967296 + q0 * Y := by
      rw [Int.add_mul, Int.mul_assoc, Int.mul_comm 4294967296 Y, ← Int.mul_assoc]
    obtain ⟨r1, r2⟩ := div_uniq (n := U * 18446744073709551616 + V) (y := Y) (q := q1 * 4294967296 + q0) (by omega) (by omega)
    have w2 : IntKind.u64.wrap (IntKind.u64.wrap (IntKind.u64.wrap (u2 * 4294967296) + V % 4294967296) - IntKind.u64.wrap (q0 * Y)) = u2 * 4294967296 + V % 4294967296 - q0 * Y := by
      simp only [wrap_u64]
      omega
    have w3 : IntKind.u64.wrap (IntKind.u64.wrap (q1 * 4294967296) + q0) = q1 * 4294967296 + q0 := by
      simp only [wrap_u64]
      omega
    rw [w2, w3, r1]
    have w4 : u2 * 4294967296 + V % 4294967296 - q0 * Y = (U * 18446744073709551616 + V) % Y := by rw [r2]; omega
    rw [w4, z2]
    unfold shr
    rw [es, Int.mul_ediv_cancel _ (by omega)]
/-- The number that two words stand for. -/
def wv (h l : Int) : Int := h * 18446744073709551616 + l
theorem wv_bd {h l : Int} (hh : U64 h) (hl : U64 l) : 0 ≤ wv h l ∧ wv h l < 340282366920938463463374607431768211456 := by
  obtain ⟨_, _⟩ := hh; obtain ⟨_, _⟩ := hl; unfold wv; omega
theorem wv_of {n : Int} : wv (n / 18446744073709551616) (n % 18446744073709551616) = n := by unfold wv; omega
theorem wv_zero {l : Int} : wv 0 l = l := by unfold wv; omega
theorem U64_hi {n : Int} (h0 : 0 ≤ n) (h1 : n < 340282366920938463463374607431768211456) : U64 (n / 18446744073709551616) := ⟨by omega, by omega⟩
theorem U64_lo {n : Int} : U64 (n % 18446744073709551616) := ⟨by omega, by omega⟩
theorem U64_zero : U64 0 := ⟨by decide, by decide⟩

section
variable {a0 a1 b0 b1 : Int}
theorem wide_Add_ok (h0 : U64 a0) (h1 : U64 a1) (h2 : U64 b0) (h3 : U64 b1) (h : wv a0 a1 + wv b0 b1 < 340282366920938463463374607431768211456) :
    wide_Add.f a0 a1 b0 b1 = some ((wv a0 a1 + wv b0 b1) / 18446744073709551616, (wv a0 a1 + wv b0 b1) % 18446744073709551616, 0) := by
  obtain ⟨_, _⟩ := h0; obtain ⟨_, _⟩ := h1; obtain ⟨_, _⟩ := h2; obtain ⟨_, _⟩ := h3
  unfold wv at *
  unfold wide_Add.f bits_Add64.f
  rw [if_pos ⟨by omega, by omega, by omega, by omega⟩]
  simp only [Option.bind_some]
  rw [if_pos ⟨by omega, by omega, by omega, by omega⟩]
  simp only [Option.bind_some]
  rw [if_pos (by omega)]
  congr 3 <;> omega
theorem wide_Small_ok (h0 : a0 = 0) : wide_Small.f a0 a1 = some (a1, 0) := by unfold wide_Small.f; rw [if_pos h0]
theorem wide_Small_err (h0 : a0 ≠ 0) : wide_Small.f a0 a1 = some (0, 16) := by unfold wide_Small.f; rw [if_neg h0]
theorem wide_Of_ok : wide_Of.f a0 = some (0, a0) := rfl
/-- The order of two numbers. -/
def wcmp (a b : Int) : Int := if a < b then -1 else if a = b then 0 else 1
theorem wcmp_neg {a b : Int} : wcmp a b < 0 ↔ a < b := by unfold wcmp; split <;> (try split) <;> omega
theorem wcmp_nonneg {a b : Int} : wcmp a b ≥ 0 ↔ b ≤ a := by unfold wcmp; split <;> (try split) <;> omega
theorem cmp_Compare_ok (a b : Int) : cmp_Compare_uint64.f a b = some (wcmp a b) := by
  unfold cmp_Compare_uint64.f cmp_isNaN_uint64.f wcmp
  have e : ∀ x : Int, (x != x) = false := fun x => by simp
  simp only [e, Option.bind_some]
  rw [if_neg (by decide), if_neg (by decide)]
  by_cases c : a < b
  · rw [if_pos c, if_pos c]
  · rw [if_neg c, if_neg c]
    by_cases d : a > b
    · rw [if_pos d, if_neg (by omega)]
    · rw [if_neg d, if_pos (by omega)]
theorem w01 : wrap64 (0 + 1) = 1 := by unfold wrap64; omega
theorem w11 : wrap64 (1 + 1) = 2 := by unfold wrap64; omega
theorem cmp_Or_two (k : Nat) (x y : Int) : cmp_Or_int.f (k + 3) [x, y] = some (if x = 0 then y else x) := by
  unfold cmp_Or_int.f
  simp only [cmp_Or_int.l0, List.length_cons, List.length_nil, w01, w11]
  have e0 : rd [x, y] 0 = x := rfl
  have e1 : rd [x, y] 1 = y := rfl
  rw [e0, e1, if_pos (by decide), if_pos (by decide), if_pos (by decide)]
  by_cases c : x = 0
  · rw [if_pos c, if_pos c, if_pos (by decide), if_pos (by decide), if_pos (by decide)]
    by_cases d : y = 0
    · rw [if_pos d, if_neg (by decide), d]
    · rw [if_neg d]
  · rw [if_neg c, if_neg c]
theorem wide_Cmp_ok (k : Nat) (h1 : U64 a1) (h3 : U64 b1) : wide_Cmp.f (k + 3) a0 a1 b0 b1 = some (wcmp (wv a0 a1) (wv b0 b1)) := by
  obtain ⟨_, _⟩ := h1; obtain ⟨_, _⟩ := h3
  unfold wide_Cmp.f
  rw [cmp_Compare_ok, cmp_Compare_ok]
  simp only [Option.bind_some, cmp_Or_two]
  congr 1
  unfold wcmp wv
  split <;> (try split) <;> (try split) <;> (try split) <;> (try split) <;> (try split) <;> omega
theorem ref_Cmp_ok (k : Nat) (h1 : U64 a1) (h3 : U64 b1) : spigotref01_Cmp.f (k + 1) a0 a1 b0 b1 = some (wcmp (wv a0 a1) (wv b0 b1)) := by
  obtain ⟨_, _⟩ := h1; obtain ⟨_, _⟩ := h3
  unfold spigotref01_Cmp.f
  simp only [spigotref01_Cmp.j0]
  unfold wcmp wv
  by_cases c : a0 < b0
  · rw [if_pos c]
    simp only [↓reduceIte]
    rw [if_pos (by omega)]
  · rw [if_neg c]
    by_cases d : a0 = b0
    · rw [if_pos d]
      by_cases e : a1 < b1
      · simp only [decide_eq_true e, ↓reduceIte]
        rw [if_pos (by omega)]
      · simp only [decide_eq_false e, Bool.false_eq_true, ↓reduceIte]
        rw [if_neg (c := a0 * 18446744073709551616 + a1 < b0 * 18446744073709551616 + b1) (by omega)]
        by_cases f : a1 = b1
        · rw [if_pos (by simp [d, f]), if_pos (by omega)]
        · rw [if_neg (by simp [d, f]), if_neg (by omega)]
    · simp only [if_neg d, Bool.false_eq_true, ↓reduceIte]
      rw [if_neg (by simp [d]), if_neg (by omega), if_neg (by omega)]
theorem ref_Less_ok (h0 : U64 a0) (h1 : U64 a1) (h2 : U64 b0) (h3 : U64 b1) (h : wv b0 b1 ≤ wv a0 a1) :
    spigotref01_Less.f a0 a1 b0 b1 = some ((wv a0 a1 - wv b0 b1) / 18446744073709551616, (wv a0 a1 - wv b0 b1) % 18446744073709551616) := by
  obtain ⟨_, _⟩ := h0; obtain ⟨_, _⟩ := h1; obtain ⟨_, _⟩ := h2; obtain ⟨_, _⟩ := h3
  unfold wv at *
  unfold spigotref01_Less.f
  simp only [wrap_u64]
  split <;> congr 2 <;> omega
end
theorem and_mask {x : Int} (h0 : 0 ≤ x) (h1 : x < 18446744073709551616) : Go.bits .and .u64 x 4294967295 = x % 4294967296 :=
  bits_mask .u64 64 (by decide) (fun n a b => wrap_id ⟨a, b⟩) 32 (by decide) x h0 h1
theorem and_one {x : Int} (h0 : 0 ≤ x) (h1 : x < 18446744073709551616) : Go.bits .and .u64 x 1 = x % 2 :=
  bits_mask .u64 64 (by decide) (fun n a b => wrap_id ⟨a, b⟩) 1 (by decide) x h0 h1
theorem mul_parts (x y : Int) : x * y = (x / 4294967296) * (y / 4294967296) * 18446744073709551616 + ((x / 4294967296) * (y % 4294967296) + (x % 4294967296) * (y / 4294967296)) * 4294967296 + (x % 4294967296) * (y % 4294967296) := by
  have hx : x = x / 4294967296 * 4294967296 + x % 4294967296 := by omega
  have hy : y = y / 4294967296 * 4294967296 + y % 4294967296 := by omega
  generalize x / 4294967296 = x1 at *
  generalize x % 4294967296 = x0 at *
  generalize y / 4294967296 = y1 at *
  generalize y % 4294967296 = y0 at *
  subst hx; subst hy
  rw [Int.add_mul, Int.mul_add, Int.mul_add]
  have e1 : x1 * 4294967296 * (y1 * 4294967296) = x1 * y1 * 18446744073709551616 := by
    rw [Int.mul_assoc, Int.mul_comm 4294967296 (y1 * 4294967296), Int.mul_assoc y1, ← Int.mul_assoc]; rfl
  have e2 : x1 * 4294967296 * y0 = x1 * y0 * 4294967296 := by rw [Int.mul_assoc, Int.mul_comm 4294967296, ← Int.mul_assoc]
  have e3 : x0 * (y1 * 4294967296) = x0 * y1 * 4294967296 := by rw [Int.mul_assoc]
  rw [e1, e2, e3]
  omega
section
variable {x y : Int}
theorem parts_bd (hx : U64 x) (hy : U64 y) :
    (0 ≤ (x / 4294967296) * (y / 4294967296) ∧ (x / 4294967296) * (y / 4294967296) ≤ 18446744065119617025) ∧ (0 ≤ (x / 4294967296) * (y % 4294967296) ∧ (x / 4294967296) * (y % 4294967296) ≤ 18446744065119617025) ∧
    (0 ≤ (x % 4294967296) * (y / 4294967296) ∧ (x % 4294967296) * (y / 4294967296) ≤ 18446744065119617025) ∧ (0 ≤ (x % 4294967296) * (y % 4294967296) ∧ (x % 4294967296) * (y % 4294967296) ≤ 18446744065119617025) := by
  obtain ⟨_, _⟩ := hx; obtain ⟨_, _⟩ := hy
  have b : ∀ a b : Int, 0 ≤ a → a ≤ 4294967295 → 0 ≤ b → b ≤ 4294967295 → 0 ≤ a * b ∧ a * b ≤ 18446744065119617025 := fun a b h0 h1 h2 h3 => mul_bd h0 h1 h2 h3
  exact ⟨b _ _ (by omega) (by omega) (by omega) (by omega), b _ _ (by omega) (by omega) (by omega) (by omega), b _ _ (by omega) (by omega) (by omega) (by omega), b _ _ (by omega) (by omega) (by omega) (by omega)⟩
theorem mul_U64_bd (hx : U64 x) (hy : U64 y) : 0 ≤ x * y ∧ x * y ≤ 340282366920938463426481119284349108225 := by
  obtain ⟨_, _⟩ := hx; obtain ⟨_, _⟩ := hy
  exact mul_bd (by assumption) (by omega : x ≤ 18446744073709551615) (by assumption) (by omega : y ≤ 18446744073709551615)
theorem bits_Mul64_ok (hx : U64 x) (hy : U64 y) : bits_Mul64.f x y = some (x * y / 18446744073709551616, x * y % 18446744073709551616) := by
  obtain ⟨⟨a1, a2⟩, ⟨b1, b2⟩, ⟨c1, c2⟩, ⟨d1, d2⟩⟩ := parts_bd hx hy
  have e := mul_parts x y
  obtain ⟨hx0, hx1⟩ := hx; obtain ⟨hy0, hy1⟩ := hy
  unfold bits_Mul64.f
  rw [and_mask hx0 hx1, and_mask hy0 hy1, wrap_u64 (x * y)]
  generalize x / 4294967296 * (y / 4294967296) = p11 at *
  generalize x / 4294967296 * (y % 4294967296) = p10 at *
  generalize x % 4294967296 * (y / 4294967296) = p01 at *
  generalize x % 4294967296 * (y % 4294967296) = p00 at *
  generalize x * y = n at *
  rw [wrap_id (x := p11) ⟨by omega, by omega⟩, wrap_id (x := p10) ⟨by omega, by omega⟩, wrap_id (x := p00) ⟨by omega, by omega⟩, wrap_id (x := p01) ⟨by omega, by omega⟩,
    wrap_id (x := p10 + p00 / 4294967296) ⟨by omega, by omega⟩, and_mask (by omega) (by omega), wrap_id (x := (p10 + p00 / 4294967296) % 4294967296 + p01) ⟨by omega, by omega⟩,
    wrap_id (x := p11 + (p10 + p00 / 4294967296) / 4294967296) ⟨by omega, by omega⟩, wrap_id ⟨by omega, by omega⟩]
  congr 2
  omega
theorem wide_Mul_ok (hx : U64 x) (hy : U64 y) : wide_Mul.f x y = some (x * y / 18446744073709551616, x * y % 18446744073709551616) := by
  unfold wide_Mul.f
  rw [bits_Mul64_ok hx hy]
  rfl
theorem ref_Mul_ok (hx : U64 x) (hy : U64 y) : spigotref01_Mul.f x y = some (x * y / 18446744073709551616, x * y % 18446744073709551616) := by
  obtain ⟨⟨a1, a2⟩, ⟨b1, b2⟩, ⟨c1, c2⟩, ⟨d1, d2⟩⟩ := parts_bd hx hy
  have e := mul_parts x y
  obtain ⟨hx0, hx1⟩ := hx; obtain ⟨hy0, hy1⟩ := hy
  unfold spigotref01_Mul.f
  rw [tdiv_nonneg_eq hx0, tdiv_nonneg_eq hy0, tmod_nonneg_eq hx0, tmod_nonneg_eq hy0, wrap_id (x := x / 4294967296) ⟨by omega, by omega⟩, wrap_id (x := y / 4294967296) ⟨by omega, by omega⟩]
  generalize x / 4294967296 * (y / 4294967296) = p11 at *
  generalize x / 4294967296 * (y % 4294967296) = p10 at *
  generalize x % 4294967296 * (y / 4294967296) = p01 at *
  generalize x % 4294967296 * (y % 4294967296) = p00 at *
  generalize x * y = n at *
  rw [wrap_id (x := p11) ⟨by omega, by omega⟩, wrap_id (x := p10) ⟨by omega, by omega⟩, wrap_id (x := p00) ⟨by omega, by omega⟩, wrap_id (x := p01) ⟨by omega, by omega⟩,
    tdiv_nonneg_eq b1, tdiv_nonneg_eq c1, tdiv_nonneg_eq d1, tmod_nonneg_eq b1, tmod_nonneg_eq c1, tmod_nonneg_eq d1,
    wrap_id (x := p10 / 4294967296) ⟨by omega, by omega⟩, wrap_id (x := p01 / 4294967296) ⟨by omega, by omega⟩, wrap_id (x := p00 / 4294967296) ⟨by omega, by omega⟩,
    wrap_id (x := p00 / 4294967296 + p10 % 4294967296) ⟨by omega, by omega⟩, wrap_id (x := p00 / 4294967296 + p10 % 4294967296 + p01 % 4294967296) ⟨by omega, by omega⟩,
    tdiv_nonneg_eq (by omega : 0 ≤ p00 / 4294967296 + p10 % 4294967296 + p01 % 4294967296), tmod_nonneg_eq (by omega : 0 ≤ p00 / 4294967296 + p10 % 4294967296 + p01 % 4294967296),
    wrap_id (x := (p00 / 4294967296 + p10 % 4294967296 + p01 % 4294967296) / 4294967296) ⟨by omega, by omega⟩, wrap_id (x := p11 + p10 / 4294967296) ⟨by omega, by omega⟩, wrap_id (x := p11 + p10 / 4294967296 + p01 / 4294967296) ⟨by omega, by omega⟩,
    wrap_id (x := p11 + p10 / 4294967296 + p01 / 4294967296 + _) ⟨by omega, by omega⟩, wrap_id (x := (p00 / 4294967296 + p10 % 4294967296 + p01 % 4294967296) % 4294967296 * 4294967296) ⟨by omega, by omega⟩, wrap_id ⟨by omega, by omega⟩]
  congr 2 <;> omega
end
section
variable {a0 a1 d : Int}
theorem wide_Div_ok (k : Nat) (hk : 20 ≤ k) (h0 : U64 a0) (h1 : U64 a1) (hd : 0 < d) (hd1 : d < 18446744073709551616) :
    wide_Div.f k a0 a1 d = some (wv a0 a1 / d / 18446744073709551616, wv a0 a1 / d % 18446744073709551616, wv a0 a1 % d, 0) := by
  obtain ⟨r1, r2, r3⟩ := div_rest (n := a0) hd
  have l0 := div_nonneg h0.1 hd
  have l1 := div_le h0.1 hd
  unfold wide_Div.f
  rw [if_neg (by omega), Div64_ok k hk 0 a0 d (by omega) h0 hd1 hd]
  simp only [Option.bind_some, Int.zero_mul, Int.zero_add]
  rw [Div64_ok k hk (a0 % d) a1 d r2 h1 hd1 r3]
  simp only [Option.bind_some]
  obtain ⟨g1, g2⟩ := h1
  obtain ⟨s1, s2, s3⟩ := div_rest (n := a0 % d * 18446744073709551616 + a1) hd
  have q0 := div_nonneg (n := a0 % d * 18446744073709551616 + a1) (by omega) hd
  have q1 : (a0 % d * 18446744073709551616 + a1) / d < 18446744073709551616 := div_lt hd (by omega)
  generalize (a0 % d * 18446744073709551616 + a1) / d = Q at *
  generalize (a0 % d * 18446744073709551616 + a1) % d = R at *
  generalize a0 / d = P at *
  have e : (P * 18446744073709551616 + Q) * d = P * d * 18446744073709551616 + Q * d := by
    rw [Int.add_mul, Int.mul_assoc, Int.mul_comm 18446744073709551616 d, ← Int.mul_assoc]
  obtain ⟨z1, z2⟩ := div_uniq (n := wv a0 a1) (y := d) (q := P * 18446744073709551616 + Q) (by unfold wv; omega) (by unfold wv; omega)
  rw [z1, z2, e]
  unfold wv
  congr 2
  · omega
  · congr 2
    · omega
    · congr 1
      omega
end
/-- A valid limit: Burst, Rate, Per. -/
def VL (b r p : Int) : Prop := 1 ≤ b ∧ b ≤ 1000000000 ∧ 0 ≤ r ∧ r ≤ 1000000000 ∧ 1 ≤ p ∧ p ≤ 1000000000
/-- A valid bucket: its limit, Level, Part, At. -/
def VB (b r p l q t : Int) : Prop := VL b r p ∧ 0 ≤ l ∧ l ≤ b ∧ 0 ≤ q ∧ q < p ∧ (l = b → q = 0) ∧ U64 t
section
variable {b r p l q t s : Int}
theorem CheckLimit_ok (h : VL b r p) : bucket_CheckLimit.f b r p = some 0 := by
  obtain ⟨_, _, _, _, _, _⟩ := h
  unfold bucket_CheckLimit.f
  rw [if_neg (by omega), if_neg (by omega), if_neg (by omega), if_neg (by omega), if_neg (by omega), if_neg (by omega)]
theorem CheckLimit_bad (h : ¬ VL b r p) : bucket_CheckLimit.f b r p = some 8 := by
  unfold bucket_CheckLimit.f
  unfold VL at h
  repeat' split
  all_goals first | rfl | (exfalso; omega)
theorem Check_ok (h : VB b r p l q t) : bucket_Check.f b r p l q t = some 0 := by
  obtain ⟨hl, h1, h2, h3, h4, h5, _⟩ := h
  have hb := hl.1
  have hb' := hl.2.1
  unfold bucket_Check.f
  rw [CheckLimit_ok hl]
  simp only [Option.bind_some, ↓reduceIte]
  rw [if_neg (by omega), wrap64_id (x := b - l) (by omega) (by omega), if_neg (by omega), if_neg (by omega), if_neg (by omega)]
  by_cases c : b - l = 0
  · rw [if_pos c, if_neg (by have := h5 (by omega); omega)]
  · rw [if_neg c]
/-- Level, Part and At behind a refill at t. -/
def fN (r q s t : Int) : Int := (t - s) * r + q
def fL (b r p l q s t : Int) : Int := if t ≤ s then l else if fN r q s t / p ≥ b - l then b else l + fN r q s t / p
def fP (b r p l q s t : Int) : Int := if t ≤ s then q else if fN r q s t / p ≥ b - l then 0 else fN r q s t % p
def fT (s t : Int) : Int := if t ≤ s then s else t
theorem fN_bd (hv : VB b r p l q s) (ht : U64 t) (h : s ≤ t) : 0 ≤ fN r q s t ∧ fN r q s t ≤ 18446744073709551615000000000 + 1000000000 ∧ 0 ≤ (t - s) * r ∧ (t - s) * r ≤ 18446744073709551615000000000 := by
  obtain ⟨⟨_, _, _, _, _, _⟩, _, _, _, _, _, ⟨_, _⟩⟩ := hv
  obtain ⟨_, _⟩ := ht
  have := mul_bd (by omega : 0 ≤ t - s) (by omega : t - s ≤ 18446744073709551615) (by assumption : 0 ≤ r) (by assumption : r ≤ 1000000000)
  unfold fN
  omega
theorem fill_ok (k : Nat) (hk : 20 ≤ k) (hv : VB b r p l q s) (ht : U64 t) : bucket_fill.f k b r p l q s t = some (b, r, p, fL b r p l q s t, fP b r p l q s t, fT s t) := by
  unfold bucket_fill.f fL fP fT
  by_cases c : t ≤ s
  · rw [if_pos c, if_pos c, if_pos c, if_pos c]
  · rw [if_neg c, if_neg c, if_neg c, if_neg c]
    obtain ⟨n0, n1, m0, m1⟩ := fN_bd hv ht (by omega : s ≤ t)
    obtain ⟨⟨b0, b1, r0, r1, p0, p1⟩, l0, l1, q0, q1, _, ⟨s0, s1⟩⟩ := hv
    obtain ⟨t0, t1⟩ := ht
    have ur : U64 r := ⟨by omega, by omega⟩
    have uq : U64 q := ⟨by omega, by omega⟩
    have up : U64 p := ⟨by omega, by omega⟩
    have ud : U64 (t - s) := ⟨by omega, by omega⟩
    have ub : U64 (b - l) := ⟨by omega, by omega⟩
    rw [wrap_id ud, wrap_id ur, wrap_id uq, wrap_id up, wide_Mul_ok ud ur, wide_Of_ok]
    simp only [Option.bind_some]
    rw [wide_Add_ok (U64_hi m0 (by omega)) U64_lo U64_zero uq (by rw [wv_of, wv_zero]; omega), wv_of, wv_zero]
    simp only [Option.bind_some]
    have e : (t - s) * r + q = fN r q s t := rfl
    rw [e, wide_Div_ok k hk (U64_hi n0 (by omega)) U64_lo (by omega) up.2, wv_of]
    simp only [Option.bind_some]
    have d0 := div_nonneg n0 (by omega : 0 < p)
    obtain ⟨e1, e2, e3⟩ := div_rest (n := fN r q s t) (by omega : 0 < p)
    by_cases c2 : fN r q s t / p < 18446744073709551616
    · rw [wide_Small_ok (by omega)]
      simp only [Option.bind_some, ↓reduceIte]
      rw [wrap64_id (x := b - l) (by omega) (by omega), wrap_id ub, show fN r q s t / p % 18446744073709551616 = fN r q s t / p by omega]
      by_cases c3 : fN r q s t / p ≥ b - l
      · rw [if_pos c3, if_pos c3, if_pos c3]
      · rw [if_neg c3, if_neg c3, if_neg c3, wrap64_id (x := fN r q s t / p) (by omega) (by omega), wrap64_id (by omega) (by omega), wrap64_id (by omega) (by omega)]
    · rw [wide_Small_err (by omega)]
      simp only [Option.bind_some]
      rw [if_neg (by decide), if_pos (by omega), if_pos (by omega)]
theorem Refill_ok (k : Nat) (hk : 20 ≤ k) (hv : VB b r p l q s) (ht : U64 t) : bucket_Refill.f k b r p l q s t = some (b, r, p, fL b r p l q s t, fP b r p l q s t, fT s t, 0) := by
  unfold bucket_Refill.f
  rw [Check_ok hv]
  simp only [Option.bind_some, ↓reduceIte]
  rw [fill_ok k hk hv ht]
  rfl
end
theorem half (P : Int) (i : Nat) : P / 2 ^ i = 2 * (P / 2 ^ (i + 1)) + P / 2 ^ i % 2 := by
  have : P / 2 ^ (i + 1) = P / 2 ^ i / 2 := by rw [Int.pow_succ, Int.ediv_ediv_of_nonneg (Int.le_of_lt (two_pow_pos i))]
  rw [this]
  omega
theorem bit_hi (h l : Int) (i : Nat) (h0 : 0 ≤ l) (h1 : l < 18446744073709551616) : (h * 18446744073709551616 + l) / 2 ^ (64 + i) = h / 2 ^ i := by
  rw [Int.pow_add, ← Int.ediv_ediv_of_nonneg (Int.le_of_lt (two_pow_pos 64))]
  congr 1
  rw [show ((2 : Int) ^ 64) = 18446744073709551616 from rfl]
  omega
theorem bit_lo (h l : Int) (i : Nat) (hi : i < 64) : (h * 18446744073709551616 + l) / 2 ^ i % 2 = l / 2 ^ i % 2 := by
  have e : h * 18446744073709551616 = h * 2 ^ (63 - i) * 2 * 2 ^ i := by
    rw [Int.mul_assoc, Int.mul_assoc, show ((2 : Int) * 2 ^ i) = 2 ^ (i + 1) from by rw [Int.pow_succ, Int.mul_comm], two_pow_split (63 - i) (i + 1) 64 (by omega)]
    rfl
  rw [e, Int.add_comm, Int.add_mul_ediv_right _ _ (by have := two_pow_pos i; omega)]
  omega
theorem shr_ok (x : Int) (i : Int) (h0 : 0 ≤ i) (h1 : i ≤ 63) : shr .u64 x i = x / 2 ^ i.toNat := by
  unfold shr
  rw [show (min i.toNat IntKind.u64.bits) = i.toNat by simp [IntKind.bits] <;> omega]
/-- One digit of a quotient to the base 2. -/
theorem digit_step {n n' D b : Int} (hD : 0 < D) (hn : n' = 2 * n + b) (b0 : 0 ≤ b) (b1 : b ≤ 1) :
    (2 * (n % D) + b ≥ D → n' / D = 2 * (n / D) + 1 ∧ n' % D = 2 * (n % D) + b - D) ∧ (2 * (n % D) + b < D → n' / D = 2 * (n / D) ∧ n' % D = 2 * (n % D) + b) := by
  obtain ⟨r1, r2, r3⟩ := div_rest (n := n) hD
  refine ⟨fun h => ?_, fun h => ?_⟩
  · have e : (2 * (n / D) + 1) * D = 2 * (n / D * D) + D := by rw [Int.add_mul, Int.one_mul, Int.mul_assoc]
    obtain ⟨z1, z2⟩ := div_uniq (n := n') (y := D) (q := 2 * (n / D) + 1) (by omega) (by omega)
    exact ⟨z1, by omega⟩
  · have e : (2 * (n / D)) * D = 2 * (n / D * D) := by rw [Int.mul_assoc]
    obtain ⟨z1, z2⟩ := div_uniq (n := n') (y := D) (q := 2 * (n / D)) (by omega) (by omega)
    exact ⟨z1, by omega⟩
theorem ref_Div_loop (h l d : Int) (h0 : U64 h) (h1 : U64 l) (hd : 0 < d) (hd1 : d < 18446744073709551616) :
    ∀ (i k : Nat), i ≤ 128 → 2 * i + 5 ≤ k →
      spigotref01_Div.l0 k d ((i : Int) - 1) h l (wv h l / 2 ^ i / d / 18446744073709551616) (wv h l / 2 ^ i / d % 18446744073709551616) 0 (wv h l / 2 ^ i % d) = some (wv h l / d / 18446744073709551616, wv h l / d % 18446744073709551616, wv h l % d, 0) := by
  obtain ⟨w0, w1⟩ := wv_bd h0 h1
  have hn : ∀ i : Nat, 0 ≤ wv h l / 2 ^ i ∧ wv h l / 2 ^ i < 340282366920938463463374607431768211456 := by
    intro i
    have := div_le w0 (two_pow_pos i)
    exact ⟨div_nonneg w0 (two_pow_pos i), by omega⟩
  intro i
  induction i with
  | zero =>
    intro k _ hk
    obtain ⟨k, rfl⟩ : ∃ m, k = m + 1 := ⟨k - 1, by omega⟩
    simp only [spigotref01_Div.l0]
    rw [if_neg (by omega)]
    simp
  | succ i ih =>
    intro k hi hk
    obtain ⟨k, rfl⟩ : ∃ m, k = m + 2 := ⟨k - 2, by omega⟩
    have ex : (((i + 1 : Nat) : Int) - 1) = (i : Int) := by omega
    rw [ex]
    obtain ⟨n0, n1⟩ := hn i
    obtain ⟨m0, m1⟩ := hn (i + 1)
    have hhalf := half (wv h l) i
    obtain ⟨r1, r2, r3⟩ := div_rest (n := wv h l / 2 ^ (i + 1)) hd
    have q0 := div_nonneg m0 hd
    have q1 := div_le m0 hd
    have st := digit_step (n := wv h l / 2 ^ (i + 1)) (n' := wv h l / 2 ^ i) (b := wv h l / 2 ^ i % 2) hd hhalf (by omega) (by omega)
    have key : ∀ b : Int, b = wv h l / 2 ^ i % 2 → spigotref01_Div.j1 (k + 1) d (i : Int) b h l (wv h l / 2 ^ (i + 1) / d / 18446744073709551616) (wv h l / 2 ^ (i + 1) / d % 18446744073709551616) 0 (wv h l / 2 ^ (i + 1) % d) = some (wv h l / d / 18446744073709551616, wv h l / d % 18446744073709551616, wv h l % d, 0) := by
      intro b hb
      rw [← hb] at hhalf st
      have b0 : 0 ≤ b := by omega
      have b1 : b ≤ 1 := by omega
      have ih' := ih k (by omega) (by omega)
      simp only [spigotref01_Div.j1]
      generalize wv h l / 2 ^ i = n' at *
      generalize wv h l / 2 ^ (i + 1) = n at *
      generalize hR : n % d = R at *
      generalize hQ : n / d = Q at *
      have eh : IntKind.u64.wrap (IntKind.u64.wrap (0 * 2) + R / 9223372036854775808) = (2 * R + b) / 18446744073709551616 := by simp only [wrap_u64]; omega
      have el : IntKind.u64.wrap (IntKind.u64.wrap (R * 2) + b) = (2 * R + b) % 18446744073709551616 := by simp only [wrap_u64]; omega
      rw [eh, el]
      obtain ⟨k, rfl⟩ : ∃ m, k = m + 1 := ⟨k - 1, by omega⟩
      rw [ref_Cmp_ok k U64_lo ⟨by omega, hd1⟩, wv_of, wv_zero]
      simp only [Option.bind_some]
      rw [wrap64_id (x := (i : Int) - 1) (by omega) (by omega)]
      by_cases c : 2 * R + b ≥ d
      · obtain ⟨s1, s2⟩ := st.1 c
        rw [if_pos (wcmp_nonneg.2 c), ref_Less_ok (U64_hi (by omega) (by omega)) U64_lo U64_zero ⟨by omega, hd1⟩ (by rw [wv_of, wv_zero]; exact c), wv_of, wv_zero]
        simp only [Option.bind_some]
        rw [← ih', s1, s2]
        congr 1 <;> (try simp only [wrap_u64]) <;> omega
      · obtain ⟨s1, s2⟩ := st.2 (by omega)
        rw [if_neg (fun h => c (wcmp_nonneg.1 h)), ← ih', s1, s2]
        congr 1 <;> (try simp only [wrap_u64]) <;> omega
    simp only [spigotref01_Div.l0]
    rw [if_pos (by omega), if_pos (by omega)]
    by_cases c : (i : Int) > 63
    · rw [if_pos c, wrap64_id (x := (i : Int) - 64) (by omega) (by omega), if_pos (by omega), shr_ok _ _ (by omega) (by omega)]
      have hh := div_nonneg h0.1 (two_pow_pos ((i : Int) - 64).toNat)
      have hh1 := div_le h0.1 (two_pow_pos ((i : Int) - 64).toNat)
      have := h0.2
      rw [and_one hh (by omega)]
      refine key _ ?_
      have e := bit_hi h l ((i : Int) - 64).toNat h1.1 h1.2
      rw [show 64 + ((i : Int) - 64).toNat = i by omega] at e
      unfold wv
      rw [e]
    · rw [if_neg c, shr_ok _ _ (by omega) (by omega)]
      have hh := div_nonneg h1.1 (two_pow_pos (i : Int).toNat)
      have hh1 := div_le h1.1 (two_pow_pos (i : Int).toNat)
      have := h1.2
      rw [and_one hh (by omega)]
      refine key _ ?_
      have e := bit_lo h l i (by omega)
      unfold wv
      rw [e]
      rfl
section
variable {a0 a1 d : Int}
theorem ref_Div_ok (k : Nat) (hk : 300 ≤ k) (h0 : U64 a0) (h1 : U64 a1) (hd : 0 < d) (hd1 : d < 18446744073709551616) :
    spigotref01_Div.f k a0 a1 d = some (wv a0 a1 / d / 18446744073709551616, wv a0 a1 / d % 18446744073709551616, wv a0 a1 % d, 0) := by
  have e := ref_Div_loop a0 a1 d h0 h1 hd hd1 128 k (by omega) (by omega)
  obtain ⟨w0, w1⟩ := wv_bd h0 h1
  have z : wv a0 a1 / 2 ^ 128 = 0 := Int.ediv_eq_zero_of_lt w0 w1
  rw [z, Int.zero_ediv, Int.zero_emod] at e
  unfold spigotref01_Div.f
  rw [if_neg (by omega)]
  exact e
end
section
variable {b r p l q t s c : Int}
theorem ref_CheckLimit_ok (h : VL b r p) : spigotref03_CheckLimit.f b r p = some 0 := CheckLimit_ok h
theorem ref_CheckLimit_bad (h : ¬ VL b r p) : spigotref03_CheckLimit.f b r p = some 8 := CheckLimit_bad h
end
theorem cdrop {α : Type} {l : List α} {j : Nat} (h : j < l.length) : l.drop j = l[j] :: l.drop (j + 1) := List.drop_eq_getElem_cons h
theorem rdL_at {l : List S49} {j : Nat} (h : j < l.length) : rd_T49 l (j : Int) = l[j] := by
  unfold rd_T49
  rw [List.getD_eq_getElem?_getD, Int.toNat_natCast, List.getElem?_eq_getElem h]
  rfl
/-- A valid limit; a valid row of limits. -/
def lO (x : S49) : Prop := VL x.f0 x.f1 x.f2
def cC (l : List S49) : Prop := l.length ≤ 6 ∧ 0 < l.length ∧ ∀ x ∈ l, lO x
theorem cchk_loop (l : List S49) (hl : l.length ≤ 6) : ∀ (d j k : Nat), j + d = l.length → d + 1 ≤ k →
    ((∀ x ∈ l.drop j, lO x) → curve_Check.l0 k l (l.length : Int) (j : Int) = some 0 ∧ spigotref40_Check.l0 k l (j : Int) = some 0) ∧
    (¬ (∀ x ∈ l.drop j, lO x) → curve_Check.l0 k l (l.length : Int) (j : Int) = some 8 ∧ spigotref40_Check.l0 k l (j : Int) = some 8) := by
  intro d
  induction d with
  | zero =>
    intro j k hj hk
    obtain ⟨k, rfl⟩ : ∃ m, k = m + 1 := ⟨k - 1, by omega⟩
    simp only [curve_Check.l0, spigotref40_Check.l0]
    rw [if_neg (by omega), if_neg (by omega), List.drop_eq_nil_of_le (by omega)]
    exact ⟨fun _ => ⟨rfl, rfl⟩, fun h => absurd (fun x hx => by cases hx) h⟩
  | succ d ih =>
    intro j k hj hk
    obtain ⟨k, rfl⟩ : ∃ m, k = m + 1 := ⟨k - 1, by omega⟩
    have hjl : j < l.length := by omega
    obtain ⟨i1, i2⟩ := ih (j + 1) k (by omega) (by omega)
    simp only [curve_Check.l0, spigotref40_Check.l0]
    rw [if_pos (by omega), if_pos (by omega), if_pos (by omega), if_pos (by omega), if_pos (by omega), rdL_at hjl, cdrop hjl, wj (by omega)]
    by_cases c : lO l[j]
    · rw [CheckLimit_ok c, ref_CheckLimit_ok c]
      simp only [Option.bind_some, ↓reduceIte]
      constructor
      · intro h
        exact i1 fun x hx => h x (List.mem_cons_of_mem _ hx)
      · intro h
        refine i2 fun g => h fun x hx => ?_
        rcases List.mem_cons.1 hx with e | e
        · rw [e]
          exact c
        · exact g x e
    · rw [CheckLimit_bad c, ref_CheckLimit_bad c]
      exact ⟨fun h => absurd (h _ List.mem_cons_self) c, fun _ => ⟨rfl, rfl⟩⟩
theorem cCheck_ok {l : List S49} (h : cC l) (k : Nat) (hk : 10 ≤ k) : curve_Check.f k l = some 0 ∧ spigotref40_Check.f k l = some 0 := by
  obtain ⟨h1, h2, h3⟩ := h
  unfold curve_Check.f spigotref40_Check.f
  rw [if_neg (by omega), if_neg (by omega), if_neg (by omega), if_neg (by omega)]
  exact (cchk_loop l h1 l.length 0 k (by omega) (by omega)).1 (by rw [List.drop_zero]; exact h3)
theorem cCheck_bad {l : List S49} (h : ¬ cC l) : ∃ x : Int, x ≠ 0 ∧ x ≠ 6 ∧ ∀ k, 10 ≤ k → curve_Check.f k l = some x ∧ spigotref40_Check.f k l = some x := by
  by_cases h1 : 6 < l.length
  · refine ⟨4, by decide, by decide, fun k _ => ?_⟩
    unfold curve_Check.f spigotref40_Check.f
    rw [if_pos (by omega), if_pos (by omega)]
    exact ⟨rfl, rfl⟩
  · by_cases h2 : l.length = 0
    · refine ⟨2, by decide, by decide, fun k _ => ?_⟩
      unfold curve_Check.f spigotref40_Check.f
      exact ⟨by rw [if_neg (by omega), if_pos (by omega)], by rw [if_neg (by omega), if_pos (by omega)]⟩
    · refine ⟨8, by decide, by decide, fun k _ => ?_⟩
      unfold curve_Check.f spigotref40_Check.f
      rw [if_neg (by omega), if_neg (by omega), if_neg (by omega), if_neg (by omega)]
      exact (cchk_loop l (by omega) l.length 0 k (by omega) (by omega)).2 (by rw [List.drop_zero]; exact fun g => h ⟨by omega, by omega, g⟩)
/-! #### values -/
def vStep (n m : Int) (x : S49) : Int := if n * x.f1 / x.f2 < 1000000000000 then mn m (x.f0 + n * x.f1 / x.f2) else m
/-- What the row allows in n ticks. -/
def cVal (l : List S49) (n : Int) : Int := l.foldl (vStep n) 1000000000000
theorem val_loop (l : List S49) (hl : ∀ x ∈ l, lO x) (hn : l.length ≤ 1000000) (n : Int) (un : U64 n) : ∀ (d j k : Nat) (m : Int), j + d = l.length → d + 301 ≤ k →
    curve_value.l0 k n m l (l.length : Int) (j : Int) = some ((l.drop j).foldl (vStep n) m) ∧ spigotref40_value.l0 k l n m (j : Int) = some ((l.drop j).foldl (vStep n) m) := by
  intro d
  induction d with
  | zero =>
    intro j k m hj hk
    obtain ⟨k, rfl⟩ : ∃ m, k = m + 1 := ⟨k - 1, by omega⟩
    simp only [curve_value.l0, spigotref40_value.l0]
    rw [if_neg (by omega), if_neg (by omega), List.drop_eq_nil_of_le (by omega)]
    exact ⟨rfl, rfl⟩
  | succ d ih =>
    intro j k m hj hk
    obtain ⟨k, rfl⟩ : ∃ m, k = m + 1 := ⟨k - 1, by omega⟩
    have hjl : j < l.length := by omega
    obtain ⟨b0, b1, r0, r1, p0, p1⟩ := hl _ (List.getElem_mem hjl)
    have ur : U64 l[j].f1 := ⟨by omega, by omega⟩
    have up : U64 l[j].f2 := ⟨by omega, by omega⟩
    obtain ⟨m0, m1⟩ := mul_U64_bd un ur
    have hh : U64 (n * l[j].f1 / 18446744073709551616) := U64_hi m0 (by omega)
    have d0 := div_nonneg m0 (by omega : 0 < l[j].f2)
    simp only [curve_value.l0, spigotref40_value.l0]
    rw [if_pos (by omega), if_pos (by omega), if_pos (by omega), if_pos (by omega), if_pos (by omega), rdL_at hjl, cdrop hjl, wj (by omega), wrap_id ur, wrap_id up, wide_Mul_ok un ur, ref_Mul_ok un ur]
    simp only [Option.bind_some]
    rw [wide_Div_ok k (by omega) hh U64_lo (by omega) up.2, ref_Div_ok k (by omega) hh U64_lo (by omega) up.2, wv_of]
    simp only [Option.bind_some, ↓reduceIte]
    rw [wide_Of_ok]
    simp only [Option.bind_some]
    have e := wide_Cmp_ok (a0 := n * l[j].f1 / l[j].f2 / 18446744073709551616) (a1 := n * l[j].f1 / l[j].f2 % 18446744073709551616) (b0 := 0) (b1 := 1000000000000) (k - 3) U64_lo ⟨by decide, by decide⟩
    rw [show k - 3 + 3 = k by omega, wv_of, wv_zero] at e
    rw [e]
    simp only [Option.bind_some]
    rw [List.foldl_cons]
    by_cases c : n * l[j].f1 / l[j].f2 < 1000000000000
    · have v : vStep n m l[j] = mn m (l[j].f0 + n * l[j].f1 / l[j].f2) := by unfold vStep; rw [if_pos c]
      rw [if_pos (wcmp_neg.2 c), v, show n * l[j].f1 / l[j].f2 % 18446744073709551616 = n * l[j].f1 / l[j].f2 by omega, wrap64_id (x := n * l[j].f1 / l[j].f2) (by omega) (by omega), wrap64_id (x := l[j].f0 + n * l[j].f1 / l[j].f2) (by omega) (by omega), if_pos (by omega), if_pos c]
      exact ih (j + 1) k _ (by omega) (by omega)
    · have v : vStep n m l[j] = m := by unfold vStep; rw [if_neg c]
      rw [if_neg (fun h => c (wcmp_neg.1 h)), v]
      obtain ⟨i1, i2⟩ := ih (j + 1) k m (by omega) (by omega)
      refine ⟨i1, ?_⟩
      by_cases c2 : n * l[j].f1 / l[j].f2 / 18446744073709551616 = 0
      · rw [if_pos c2, if_neg (by omega)]
        exact i2
      · rw [if_neg c2]
        exact i2
theorem value_ok {l : List S49} (h : cC l) {n : Int} (un : U64 n) (k : Nat) (hk : 310 ≤ k) : curve_value.f k l n = some (cVal l n) ∧ spigotref40_value.f k l n = some (cVal l n) := by
  obtain ⟨h1, h2, h3⟩ := h
  have e := val_loop l h3 (by omega) n un l.length 0 k 1000000000000 (by omega) (by omega)
  rw [List.drop_zero] at e
  exact e
theorem At_ok {l : List S49} (h : cC l) {n : Int} (un : U64 n) (k : Nat) (hk : 310 ≤ k) : curve_At.f k l n = some (cVal l n, 0) ∧ spigotref40_At.f k l n = some (cVal l n, 0) := by
  obtain ⟨c1, c2⟩ := cCheck_ok h k (by omega)
  obtain ⟨v1, v2⟩ := value_ok h un k hk
  unfold curve_At.f spigotref40_At.f
  rw [c1, c2]
  simp only [Option.bind_some, ↓reduceIte]
  rw [v1, v2]
  exact ⟨rfl, rfl⟩
/-! #### charges -/
def bq (n : Int) (x : S49) : Int := x.f0 + n * x.f1 / x.f2
theorem vStep_le {n m s : Int} {x : S49} (h0 : 0 ≤ x.f0) (hm : m ≤ 1000000000000) : (s ≤ vStep n m x ↔ s ≤ m ∧ s ≤ bq n x) ∧ vStep n m x ≤ 1000000000000 := by
  unfold vStep bq mn
  split
  · split <;> omega
  · omega
theorem cVal_le {l : List S49} (hl : ∀ x ∈ l, lO x) (n : Int) : ∀ (m s : Int), m ≤ 1000000000000 → (s ≤ l.foldl (vStep n) m ↔ s ≤ m ∧ ∀ x ∈ l, s ≤ bq n x) := by
  induction l with
  | nil => exact fun m s _ => ⟨fun h => ⟨h, fun x hx => by cases hx⟩, fun h => h.1⟩
  | cons x l ih =>
    intro m s hm
    have h0 : 0 ≤ x.f0 := by have := (hl x List.mem_cons_self).1; omega
    obtain ⟨v1, v2⟩ := vStep_le (s := s) (n := n) h0 hm
    rw [List.foldl_cons, ih (fun y hy => hl y (List.mem_cons_of_mem _ hy)) _ s v2, v1, List.forall_mem_cons, and_assoc]
theorem le_cVal {l : List S49} (hl : ∀ x ∈ l, lO x) (n s : Int) : s ≤ cVal l n ↔ s ≤ 1000000000000 ∧ ∀ x ∈ l, s ≤ bq n x := cVal_le hl n _ s (Int.le_refl _)
theorem eq_of_le {a b : Int} (h : ∀ s : Int, s ≤ a ↔ s ≤ b) : a = b := by have h1 := (h a).1 (Int.le_refl _); have h2 := (h b).2 (Int.le_refl _); omega
set_option maxRecDepth 100000 in
theorem alive40_ : spigotlaw40_alive.f 100 = some true := by kernel_rfl
theorem alive40 (k : Nat) (hk : 100 ≤ k) : spigotlaw40_alive.f k = some true := up_ (fun k => spigotlaw40_alive.mono k) alive40_ k hk
theorem CurveGrows_pure (l : List S49) (b r p n n' : Int) (_ : l.length ≤ maxLen) (_ : ∀ x ∈ l, I64 x.f0 ∧ I64 x.f1 ∧ I64 x.f2) (_ : I64 b) (_ : I64 r) (_ : I64 p) (hn : U64 n) (hn' : U64 n') :
    ∃ k, spigotlaw40_CurveGrows.f k l b r p n n' = some true := by
  refine ⟨1000, ?_⟩
  have out : spigotlaw40_CurveGrows.j0 1000 l n n' true true b r p = some true := by
    simp only [spigotlaw40_CurveGrows.j0]
    rfl
  unfold spigotlaw40_CurveGrows.f
  rw [alive40 1000 (by omega)]
  simp only [Option.bind_some]
  by_cases g : (l.length : Int) > 5
  · rw [if_pos g]
    exact out
  · rw [if_neg g]
    by_cases hl : cC l
    · rw [(cCheck_ok hl 1000 (by omega)).2]
      simp only [Option.bind_some, ↓reduceIte]
      by_cases hx : cC [⟨b, r, p⟩]
      · rw [(cCheck_ok hx 1000 (by omega)).2]
        simp only [Option.bind_some, ↓reduceIte]
        by_cases h : n > n'
        · rw [if_pos h]
          exact out
        · rw [if_neg h]
          obtain ⟨l6, l0, lv⟩ := hl
          have hv : VL b r p := hx.2.2 ⟨b, r, p⟩ (by simp)
          have xv : ∀ x ∈ [(⟨b, r, p⟩ : S49)], lO x := hx.2.2
          have v1 : ∀ x ∈ l ++ [(⟨b, r, p⟩ : S49)], lO x := fun x hx => by
            rcases List.mem_append.1 hx with h | h
            · exact lv x h
            · exact xv x h
          have v2 : ∀ x ∈ [(⟨b, r, p⟩ : S49)] ++ l, lO x := fun x hx => by
            rcases List.mem_append.1 hx with h | h
            · exact xv x h
            · exact lv x h
          have e1 := (At_ok (l := l) ⟨l6, l0, lv⟩ hn 999 (by omega)).1
          have e2 := (At_ok (l := l) ⟨l6, l0, lv⟩ hn' 999 (by omega)).1
          have e3 := (At_ok (l := l ++ [⟨b, r, p⟩]) ⟨by simp; omega, by simp, v1⟩ hn 999 (by omega)).1
          have e4 := (At_ok (l := [⟨b, r, p⟩] ++ l) ⟨by simp; omega, by simp, v2⟩ hn 999 (by omega)).1
          have e5 := (At_ok (l := [⟨b, r, p⟩]) hx hn 999 (by omega)).1
          obtain ⟨b0, b1, r0, r1, p0, p1⟩ := hv
          obtain ⟨n0, n1⟩ := hn
          obtain ⟨n0', n1'⟩ := hn'
          have q0 : ∀ x ∈ l, 1 ≤ bq n x ∧ bq n x ≤ bq n' x := by
            intro x hx
            obtain ⟨a0, a1, a2, a3, a4, a5⟩ := lv x hx
            have := div_nonneg (Int.mul_nonneg n0 a2) (by omega : 0 < x.f2)
            have := div_mono (by omega : 0 < x.f2) (Int.mul_le_mul_of_nonneg_right (by omega : n ≤ n') a2)
            unfold bq
            omega
          have d0 := div_nonneg (Int.mul_nonneg n0 r0) (by omega : 0 < p)
          have eb : bq n ⟨b, r, p⟩ = b + n * r / p := rfl
          have f1 : ¬ cVal l n < 1 := by have := (le_cVal lv n 1).2 ⟨by omega, fun x hx => (q0 x hx).1⟩; omega
          have f2 : ¬ cVal l n' < cVal l n := by
            obtain ⟨g1, g2⟩ := (le_cVal lv n (cVal l n)).1 (Int.le_refl _)
            have := (le_cVal lv n' (cVal l n)).2 ⟨g1, fun x hx => Int.le_trans (g2 x hx) (q0 x hx).2⟩
            omega
          have f3 : cVal (l ++ [⟨b, r, p⟩]) n = cVal ([⟨b, r, p⟩] ++ l) n := eq_of_le fun s => by
            rw [le_cVal v1, le_cVal v2]
            simp only [List.mem_append]
            exact ⟨fun h => ⟨h.1, fun x hx => h.2 x hx.symm⟩, fun h => ⟨h.1, fun x hx => h.2 x hx.symm⟩⟩
          have mle : ∀ s a b : Int, s ≤ mn a b ↔ s ≤ a ∧ s ≤ b := fun s a b => by unfold mn; split <;> omega
          have f4 : cVal (l ++ [⟨b, r, p⟩]) n = mn (cVal l n) (cVal [⟨b, r, p⟩] n) := eq_of_le fun s => by
            rw [mle, le_cVal v1, le_cVal lv, le_cVal xv]
            simp only [List.mem_append]
            exact ⟨fun h => ⟨⟨h.1, fun x hx => h.2 x (.inl hx)⟩, h.1, fun x hx => h.2 x (.inr hx)⟩, fun h => ⟨h.1.1, fun x hx => hx.elim (h.1.2 x) (h.2.2 x)⟩⟩
          have f5 : cVal [⟨b, r, p⟩] n = mn 1000000000000 (b + n * r / p) := eq_of_le fun s => by
            rw [mle, le_cVal xv]
            simp only [List.mem_singleton]
            exact ⟨fun h => ⟨h.1, h.2 _ rfl⟩, fun h => ⟨h.1, fun x hx => by rw [hx]; exact h.2⟩⟩
          have rf := Refill_ok (b := b) (r := r) (p := p) (l := 0) (q := 0) (s := 0) (t := n) 999 (by omega) ⟨⟨b0, b1, r0, r1, p0, p1⟩, by omega, by omega, by omega, by omega, fun _ => rfl, by decide, by decide⟩ ⟨n0, n1⟩
          have lev : fL b r p 0 0 0 n = mn b (n * r / p) := by
            unfold fL fN mn
            rw [Int.sub_zero, Int.sub_zero, Int.add_zero, Int.zero_add]
            by_cases z : n ≤ 0
            · have : n = 0 := by omega
              subst this
              rw [Int.zero_mul, Int.zero_ediv]
              split <;> split <;> omega
            · rw [if_neg z]
              split <;> split <;> omega
          simp only [spigotlaw40_CurveGrows.j0, Bool.not_true]
          rw [if_neg (by decide), e1, e2]
          simp only [Option.bind_some, List.nil_append, List.length_nil]
          rw [if_pos (by omega)]
          rw [if_pos (by simp only [List.length_cons, List.length_nil]; omega), e3]
          simp only [Option.bind_some]
          rw [if_pos (by simp only [List.length_cons, List.length_nil]; omega), e4, e5]
          simp only [Option.bind_some, ↓reduceIte]
          rw [if_neg f1, if_neg f2, if_pos f3, if_pos f4, rf]
          simp only [Option.bind_some, ↓reduceIte]
          rw [lev, f5]
          congr 1
          rw [beq_iff_eq]
          unfold mn
          rw [wrap64_id (by split <;> omega) (by split <;> omega)]
          split <;> split <;> (try split) <;> omega
      · obtain ⟨x, x0, _, h⟩ := cCheck_bad hx
        rw [(h 1000 (by omega)).2]
        simp only [Option.bind_some]
        rw [if_neg x0]
        exact out
    · obtain ⟨x, x0, _, h⟩ := cCheck_bad hl
      rw [(h 1000 (by omega)).2]
      simp only [Option.bind_some]
      rw [if_neg x0]
      exact out
end Go.Proofs.Ytimhghmfhfggoaa.X
