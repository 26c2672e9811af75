/- GcraLevel, and what it needs. -/
import Derived.Test.YtnijohomnajngaaX5
import Derived.Test.YtnijohomnajngaaX7
import Derived.Test.YtnijohomnajngaaX9
import Derived.Test.YtnijohomnajngaaX10
import Derived.Test.YtnijohomnajngaaX11
import Derived.Test.YtnijohomnajngaaX14
import Derived.Test.YtnijohomnajngaaX15
import Derived.Test.YtnijohomnajngaaX17
import Derived.Test.YtnijohomnajngaaX19
import Derived.Test.YtnijohomnajngaaX20
import Derived.Test.YtnijohomnajngaaX21
import Derived.Test.YtnijohomnajngaaX22
import Derived.Test.YtnijohomnajngaaX23
import Derived.Test.YtnijohomnajngaaX24
import Derived.Test.YtnijohomnajngaaX25
import Derived.Test.YtnijohomnajngaaX26
import Derived.Test.YtnijohomnajngaaX28
import Derived.Test.YtnijohomnajngaaX32
import Derived.Test.YtnijohomnajngaaX33
import Derived.Test.YtnijohomnajngaaX37
import Derived.Test.YtnijohomnajngaaX38
import Derived.Test.YtnijohomnajngaaX39
import Derived.Test.YtnijohomnajngaaX45
import Derived.Test.YtnijohomnajngaaX46
import Derived.Test.YtnijohomnajngaaMath
namespace Go.Proofs.Ytnijohomnajngaa.X
open Go.RowKit Go.Proofs.YtnijohomnajngaaW.PrintWords Go.Proofs.YtnijohomnajngaaW.PrintLast Go.Proofs.YtnijohomnajngaaW.PrintMore
set_option linter.unusedVariables false
set_option linter.unusedSimpArgs false

/-- From the table: how many bits a byte needs. -/
theorem tab_byte (b : Nat) (hb : b < 256) (h0 : 0 < b) : ∃ t : Nat, 1 ≤ t ∧ t ≤ 8 ∧ 2 ^ (t - 1) ≤ b ∧ b < 2 ^ t ∧ bt (⟨#[0, 1, 2, 2, 3, 3, 3, 3, 4, 4, 4, 4, 4, 4, 4, 4, 5, 5, 5, 5, 5, 5, 5, 5, 5, 5, 5, 5, 5, 5, 5, 5, 6, 6, 6, 6, 6, 6, 6, 6, 6, 6, 6, 6, 6, 6, 6, 6, 6, 6, 6, 6, 6, 6, 6, 6, 6, 6, 6, 6, 6, 6, 6, 6, 7, 7, 7, 7, 7, 7, 7, 7, 7, 7, 7, 7, 7, 7, 7, 7, 7, 7, 7, 7, 7, 7, 7, 7, 7, 7, 7, 7, 7, 7, 7, 7, 7, 7, 7, 7, 7, 7, 7, 7, 7, 7, 7, 7, 7, 7, 7, 7, 7, 7, 7, 7, 7, 7, 7, 7, 7, 7, 7, 7, 7, 7, 7, 7, 8, 8, 8, 8, 8, 8, 8, 8, 8, 8, 8, 8, 8, 8, 8, 8, 8, 8, 8, 8, 8, 8, 8, 8, 8, 8, 8, 8, 8, 8, 8, 8, 8, 8, 8, 8, 8, 8, 8, 8, 8, 8, 8, 8, 8, 8, 8, 8, 8, 8, 8, 8, 8, 8, 8, 8, 8, 8, 8, 8, 8, 8, 8, 8, 8, 8, 8, 8, 8, 8, 8, 8, 8, 8, 8, 8, 8, 8, 8, 8, 8, 8, 8, 8, 8, 8, 8, 8, 8, 8, 8, 8, 8, 8, 8, 8, 8, 8, 8, 8, 8, 8, 8, 8, 8, 8, 8, 8, 8, 8, 8, 8, 8, 8, 8, 8, 8, 8, 8, 8, 8, 8, 8, 8, 8, 8, 8, 8]⟩ : ByteArray) (b : Int) = (t : Int) := by
  have h : ∀ b : Fin 256, 0 < b.val → ∃ t : Fin 9, 1 ≤ t.val ∧ 2 ^ (t.val - 1) ≤ b.val ∧ b.val < 2 ^ t.val ∧ bt (⟨#[0, 1, 2, 2, 3, 3, 3, 3, 4, 4, 4, 4, 4, 4, 4, 4, 5, 5, 5, 5, 5, 5, 5, 5, 5, 5, 5, 5, 5, 5, 5, 5, 6, 6, 6, 6, 6, 6, 6, 6, 6, 6, 6, 6, 6, 6, 6, 6, 6, 6, 6, 6, 6, 6, 6, 6, 6, 6, 6, 6, 6, 6, 6, 6, 7, 7, 7, 7, 7, 7, 7, 7, 7, 7, 7, 7, 7, 7, 7, 7, 7, 7, 7, 7, 7, 7, 7, 7, 7, 7, 7, 7, 7, 7, 7, 7, 7, 7, 7, 7, 7, 7, 7, 7, 7, 7, 7, 7, 7, 7, 7, 7, 7, 7, 7, 7, 7, 7, 7, 7, 7, 7, 7, 7, 7, 7, 7, 7, 8, 8, 8, 8, 8, 8, 8, 8, 8, 8, 8, 8, 8, 8, 8, 8, 8, 8, 8, 8, 8, 8, 8, 8, 8, 8, 8, 8, 8, 8, 8, 8, 8, 8, 8, 8, 8, 8, 8, 8, 8, 8, 8, 8, 8, 8, 8, 8, 8, 8, 8, 8, 8, 8, 8, 8, 8, 8, 8, 8, 8, 8, 8, 8, 8, 8, 8, 8, 8, 8, 8, 8, 8, 8, 8, 8, 8, 8, 8, 8, 8, 8, 8, 8, 8, 8, 8, 8, 8, 8, 8, 8, 8, 8, 8, 8, 8, 8, 8, 8, 8, 8, 8, 8, 8, 8, 8, 8, 8, 8, 8, 8, 8, 8, 8, 8, 8, 8, 8, 8, 8, 8, 8, 8, 8, 8, 8, 8]⟩ : ByteArray) (b.val : Int) = (t.val : Int) := by decide +kernel
  obtain ⟨t, h1, h2, h3, h4⟩ := h ⟨b, hb⟩ h0
  exact ⟨t.val, h1, by omega, h2, h3, h4⟩
/-- How many bits a number needs, behind a shift by m. -/
theorem bits_shift {x b : Int} {t m : Nat} (hb : b = x / 2 ^ m) (h1 : 1 ≤ t) (h2 : (2 : Int) ^ (t - 1) ≤ b) (h3 : b < 2 ^ t) : (2 : Int) ^ (t + m - 1) ≤ x ∧ x < 2 ^ (t + m) := by
  subst hb
  obtain ⟨d1, d2⟩ := div_bd (n := x) (two_pow_pos m)
  have e1 := two_pow_split (t - 1) m (t + m - 1) (by omega)
  have e2 := two_pow_split t m (t + m) rfl
  have k1 := Int.mul_le_mul_of_nonneg_right h2 (Int.le_of_lt (two_pow_pos m))
  have k2 : x / 2 ^ m * 2 ^ m + 2 ^ m ≤ 2 ^ t * 2 ^ m := by
    have : (x / 2 ^ m + 1) * 2 ^ m ≤ 2 ^ t * 2 ^ m := Int.mul_le_mul_of_nonneg_right (by omega) (Int.le_of_lt (two_pow_pos m))
    rw [Int.add_mul, Int.one_mul] at this
    exact this
  omega
set_option maxRecDepth 100000 in
theorem Len64_j0 (k : Nat) (x o : Int) (m : Nat) (ho : o = m) (hm : m ≤ 32) (h0 : 0 < x) (h1 : x < 4294967296) :
    ∃ t : Nat, 1 ≤ t ∧ t ≤ 32 ∧ bits_Len64.j0 (k + 1) x o = some ((t + m : Nat) : Int) ∧ (2 : Int) ^ (t - 1) ≤ x ∧ x < 2 ^ t := by
  rw [bits_Len64.j0]
  have key : ∀ (b : Int) (s : Nat), b = x / 2 ^ s → 0 < b → b < 256 → s ≤ 24 → ∃ t : Nat, 1 ≤ t ∧ t ≤ 8 ∧ bt (⟨#[0, 1, 2, 2, 3, 3, 3, 3, 4, 4, 4, 4, 4, 4, 4, 4, 5, 5, 5, 5, 5, 5, 5, 5, 5, 5, 5, 5, 5, 5, 5, 5, 6, 6, 6, 6, 6, 6, 6, 6, 6, 6, 6, 6, 6, 6, 6, 6, 6, 6, 6, 6, 6, 6, 6, 6, 6, 6, 6, 6, 6, 6, 6, 6, 7, 7, 7, 7, 7, 7, 7, 7, 7, 7, 7, 7, 7, 7, 7, 7, 7, 7, 7, 7, 7, 7, 7, 7, 7, 7, 7, 7, 7, 7, 7, 7, 7, 7, 7, 7, 7, 7, 7, 7, 7, 7, 7, 7, 7, 7, 7, 7, 7, 7, 7, 7, 7, 7, 7, 7, 7, 7, 7, 7, 7, 7, 7, 7, 8, 8, 8, 8, 8, 8, 8, 8, 8, 8, 8, 8, 8, 8, 8, 8, 8, 8, 8, 8, 8, 8, 8, 8, 8, 8, 8, 8, 8, 8, 8, 8, 8, 8, 8, 8, 8, 8, 8, 8, 8, 8, 8, 8, 8, 8, 8, 8, 8, 8, 8, 8, 8, 8, 8, 8, 8, 8, 8, 8, 8, 8, 8, 8, 8, 8, 8, 8, 8, 8, 8, 8, 8, 8, 8, 8, 8, 8, 8, 8, 8, 8, 8, 8, 8, 8, 8, 8, 8, 8, 8, 8, 8, 8, 8, 8, 8, 8, 8, 8, 8, 8, 8, 8, 8, 8, 8, 8, 8, 8, 8, 8, 8, 8, 8, 8, 8, 8, 8, 8, 8, 8, 8, 8, 8, 8, 8, 8]⟩ : ByteArray) b = (t : Int) ∧ (2 : Int) ^ (t + s - 1) ≤ x ∧ x < 2 ^ (t + s) := by
    intro b s hb b0 b1 hs
    obtain ⟨c, rfl⟩ := Int.eq_ofNat_of_zero_le (Int.le_of_lt b0)
    obtain ⟨t, t1, t2, t3, t4, t5⟩ := tab_byte c (by omega) (by omega)
    obtain ⟨e1, e2⟩ := bits_shift (x := x) (b := c) (t := t) (m := s) hb t1 (by exact_mod_cast t3) (by exact_mod_cast t4)
    exact ⟨t, t1, t2, t5, e1, e2⟩
  by_cases c1 : x ≥ 65536
  · rw [if_pos c1]
    by_cases c2 : x / 65536 ≥ 256
    · rw [if_pos c2, if_pos (by omega), if_pos (by omega)]
      obtain ⟨t, t1, t2, t3, t4, t5⟩ := key (x / 65536 / 256 % 256) 24 (by rw [Int.emod_eq_of_lt (by omega) (by omega), show ((2 : Int) ^ 24) = 16777216 from rfl]; omega) (by omega) (by omega) (by omega)
      refine ⟨t + 24, by omega, by omega, ?_, t4, t5⟩
      rw [t3, ho, wrap64_id (x := (m : Int) + 16) (by omega) (by omega), wrap64_id (x := (m : Int) + 16 + 8) (by omega) (by omega), wrap64_id (x := (t : Int)) (by omega) (by omega), wrap64_id (by omega) (by omega)]
      congr 1
      omega
    · rw [if_neg c2, if_pos (by omega), if_pos (by omega)]
      obtain ⟨t, t1, t2, t3, t4, t5⟩ := key (x / 65536 % 256) 16 (by rw [Int.emod_eq_of_lt (by omega) (by omega), show ((2 : Int) ^ 16) = 65536 from rfl]) (by omega) (by omega) (by omega)
      refine ⟨t + 16, by omega, by omega, ?_, t4, t5⟩
      rw [t3, ho, wrap64_id (x := (m : Int) + 16) (by omega) (by omega), wrap64_id (x := (t : Int)) (by omega) (by omega), wrap64_id (by omega) (by omega)]
      congr 1
      omega
  · rw [if_neg c1]
    by_cases c2 : x ≥ 256
    · rw [if_pos c2, if_pos (by omega), if_pos (by omega)]
      obtain ⟨t, t1, t2, t3, t4, t5⟩ := key (x / 256 % 256) 8 (by rw [Int.emod_eq_of_lt (by omega) (by omega), show ((2 : Int) ^ 8) = 256 from rfl]) (by omega) (by omega) (by omega)
      refine ⟨t + 8, by omega, by omega, ?_, t4, t5⟩
      rw [t3, ho, wrap64_id (x := (m : Int) + 8) (by omega) (by omega), wrap64_id (x := (t : Int)) (by omega) (by omega), wrap64_id (by omega) (by omega)]
      congr 1
      omega
    · rw [if_neg c2, if_pos (by omega), if_pos (by omega)]
      obtain ⟨t, t1, t2, t3, t4, t5⟩ := key (x % 256) 0 (by rw [Int.emod_eq_of_lt (by omega) (by omega)]; simp) (by omega) (by omega) (by omega)
      refine ⟨t, by omega, by omega, ?_, t4, t5⟩
      rw [t3, ho, wrap64_id (x := (t : Int)) (by omega) (by omega), wrap64_id (by omega) (by omega)]
      congr 1
      omega
theorem Len64_ok (k : Nat) (x : Int) (h0 : 0 < x) (h1 : x < 18446744073709551616) :
    ∃ t : Nat, 1 ≤ t ∧ t ≤ 64 ∧ bits_Len64.f (k + 1) x = some (t : Int) ∧ (2 : Int) ^ (t - 1) ≤ x ∧ x < 2 ^ t := by
  unfold bits_Len64.f
  by_cases c : x ≥ 4294967296
  · rw [if_pos c]
    obtain ⟨t, t1, t2, t3, t4, t5⟩ := Len64_j0 k (x / 4294967296) 32 32 rfl (by omega) (by omega) (by omega)
    obtain ⟨e1, e2⟩ := bits_shift (x := x) (b := x / 4294967296) (t := t) (m := 32) (by rw [show ((2 : Int) ^ 32) = 4294967296 from rfl]) t1 t4 t5
    exact ⟨t + 32, by omega, by omega, t3, e1, e2⟩
  · rw [if_neg c]
    obtain ⟨t, t1, t2, t3, t4, t5⟩ := Len64_j0 k x 0 0 rfl (by omega) h0 (by omega)
    exact ⟨t, by omega, by omega, t3, t4, t5⟩
theorem LeadingZeros64_ok (k : Nat) (x : Int) (h0 : 0 < x) (h1 : x < 18446744073709551616) :
    ∃ s : Nat, s ≤ 63 ∧ bits_LeadingZeros64.f (k + 1) x = some (s : Int) ∧ (9223372036854775808 : Int) ≤ x * 2 ^ s ∧ x * 2 ^ s < 18446744073709551616 := by
  obtain ⟨t, t1, t2, t3, t4, t5⟩ := Len64_ok k x h0 h1
  refine ⟨64 - t, by omega, ?_, ?_, ?_⟩
  · unfold bits_LeadingZeros64.f
    rw [t3]
    simp only [Option.bind_some]
    rw [wrap64_id (by omega) (by omega)]
    congr 1
    omega
  · have e := two_pow_split (t - 1) (64 - t) 63 (by omega)
    have k1 := Int.mul_le_mul_of_nonneg_right t4 (Int.le_of_lt (two_pow_pos (64 - t)))
    rw [e] at k1
    exact k1
  · have e := two_pow_split t (64 - t) 64 (by omega)
    have k1 := Int.mul_lt_mul_of_pos_right t5 (two_pow_pos (64 - t))
    rw [e] at k1
    exact k1

/-! #### the loops of Div64: a guessed digit is lowered until it is the digit -/
section
variable {y yn1 yn0 u v q r : Int}
theorem kn_eq (hy : y = yn1 * 4294967296 + yn0) : q * y = q * yn1 * 4294967296 + q * yn0 := by rw [hy, Int.mul_add, Int.mul_assoc]
theorem kn_dec (hy : y = yn1 * 4294967296 + yn0) (hu0 : 0 ≤ u) (hu : u < y) (hv0 : 0 ≤ v) (hv : v < 4294967296) (hq : u = q * yn1 + r) (hq0 : 0 ≤ q) (hc : q ≥ 4294967296 ∨ q * yn0 > 4294967296 * r + v) : u * 4294967296 + v < q * y ∧ 1 ≤ q := by
  have e := kn_eq (q := q) hy
  have h : u * 4294967296 + v < q * y := by
    rcases hc with h | h
    · have := Int.mul_le_mul_of_nonneg_right h (by omega : 0 ≤ y)
      omega
    · omega
  refine ⟨h, ?_⟩
  rcases Int.lt_or_le 0 q with h' | h'
  · omega
  · have : q = 0 := by omega
    subst this
    rw [Int.zero_mul] at h
    omega
theorem kn_low (hy : y = yn1 * 4294967296 + yn0) (hu : u < y) (hu0 : 0 ≤ u) (hv : v < 4294967296) (hq : q * y ≤ u * 4294967296 + v) : q < 4294967296 := by
  rcases Int.lt_or_le q 4294967296 with h | h
  · exact h
  · have := Int.mul_le_mul_of_nonneg_right h (by omega : 0 ≤ y)
    omega
theorem kn_brk (hy : y = yn1 * 4294967296 + yn0) (h2 : 0 ≤ yn0) (h2' : yn0 < 4294967296) (hv0 : 0 ≤ v) (hq : u = q * yn1 + r) (hq0 : 0 ≤ q) (hq1 : q ≤ 4294967296) (hr : 4294967296 ≤ r) : q * y ≤ u * 4294967296 + v := by
  have e := kn_eq (q := q) hy
  have h := (mul_bd hq0 hq1 h2 (by omega : yn0 ≤ 4294967295)).2
  omega
end

theorem Div64_l0 (y s yn1 yn0 u v un0 : Int) (hy : y = yn1 * 4294967296 + yn0) (h1 : 2147483648 ≤ yn1) (h1' : yn1 < 4294967296) (h2 : 0 ≤ yn0) (h2' : yn0 < 4294967296) (hu0 : 0 ≤ u) (hu : u < y) (hv0 : 0 ≤ v) (hv : v < 4294967296) :
    ∀ (d k : Nat) (q r : Int), 2 * d + 2 ≤ k → 4294967296 ≤ r + d * 2147483648 → 0 ≤ r → r < 4294967296 → u = q * yn1 + r → 0 ≤ q → q ≤ 4294967297 → u * 4294967296 + v < q * y + y →
    ∃ k' q', k ≤ k' + (2 * d + 2) ∧ bits_Div64.l0 k y s yn1 yn0 u v un0 q r = bits_Div64.j2 k' y s yn1 yn0 u v un0 q' ∧ 0 ≤ q' ∧ q' < 4294967296 ∧ q' * y ≤ u * 4294967296 + v ∧ u * 4294967296 + v < q' * y + y := by
  intro d
  induction d with
  | zero => intro k q r _ h; intros; omega
  | succ d ih =>
    intro k q r hk hd hr0 hr hq hq0 hq1 hlt
    obtain ⟨k, rfl⟩ : ∃ m, k = m + 2 := ⟨k - 2, by omega⟩
    have dec : q ≥ 4294967296 ∨ q * yn0 > 4294967296 * r + v → ∃ k' q', k + 2 ≤ k' + (2 * (d + 1) + 2) ∧ bits_Div64.j1 (k + 1) y s yn1 yn0 u v un0 q r true = bits_Div64.j2 k' y s yn1 yn0 u v un0 q' ∧ 0 ≤ q' ∧ q' < 4294967296 ∧ q' * y ≤ u * 4294967296 + v ∧ u * 4294967296 + v < q' * y + y := by
      intro hc
      obtain ⟨g1, g2⟩ := kn_dec hy hu0 hu hv0 hv hq hq0 hc
      have e1 : (q - 1) * y = q * y - y := by rw [Int.sub_mul, Int.one_mul]
      have e2 : (q - 1) * yn1 = q * yn1 - yn1 := by rw [Int.sub_mul, Int.one_mul]
      simp only [bits_Div64.j1, ↓reduceIte]
      rw [wrap_id (x := q - 1) ⟨by omega, by omega⟩, wrap_id (x := r + yn1) ⟨by omega, by omega⟩]
      by_cases c : r + yn1 ≥ 4294967296
      · rw [if_pos c]
        have b := kn_brk (q := q - 1) (r := r + yn1) (u := u) (v := v) hy h2 h2' hv0 (by omega) (by omega) (by omega) c
        exact ⟨k, q - 1, by omega, rfl, by omega, kn_low hy hu hu0 hv b, b, by omega⟩
      · rw [if_neg c]
        obtain ⟨k', q', a1, a2, a3⟩ := ih k (q - 1) (r + yn1) (by omega) (by omega) (by omega) (by omega) (by omega) (by omega) (by omega) (by omega)
        exact ⟨k', q', by omega, a2, a3⟩
    simp only [bits_Div64.l0]
    by_cases c1 : q ≥ 4294967296
    · rw [if_pos c1]
      exact dec (.inl c1)
    · rw [if_neg c1]
      have b1 := mul_bd hq0 (by omega : q ≤ 4294967295) h2 (by omega : yn0 ≤ 4294967295)
      rw [wrap_id (x := q * yn0) ⟨by omega, by omega⟩, wrap_id (x := 4294967296 * r) ⟨by omega, by omega⟩, wrap_id (x := 4294967296 * r + v) ⟨by omega, by omega⟩]
      by_cases c2 : q * yn0 > 4294967296 * r + v
      · rw [decide_eq_true c2]
        exact dec (.inr c2)
      · rw [decide_eq_false c2]
        simp only [bits_Div64.j1, Bool.false_eq_true, ↓reduceIte]
        have e := kn_eq (q := q) hy
        exact ⟨k, q, by omega, rfl, hq0, by omega, by omega, hlt⟩
theorem Div64_l1 (y s yn1 yn0 u v q1 : Int) (hy : y = yn1 * 4294967296 + yn0) (h1 : 2147483648 ≤ yn1) (h1' : yn1 < 4294967296) (h2 : 0 ≤ yn0) (h2' : yn0 < 4294967296) (hu0 : 0 ≤ u) (hu : u < y) (hv0 : 0 ≤ v) (hv : v < 4294967296) (hs : 0 ≤ s) :
    ∀ (d k : Nat) (q r : Int), 2 * d + 2 ≤ k → 4294967296 ≤ r + d * 2147483648 → 0 ≤ r → r < 4294967296 → u = q * yn1 + r → 0 ≤ q → q ≤ 4294967297 → u * 4294967296 + v < q * y + y →
    ∃ q', bits_Div64.l1 k y s yn1 yn0 v q1 r u q = some (IntKind.u64.wrap (IntKind.u64.wrap (q1 * 4294967296) + q'), shr .u64 (IntKind.u64.wrap (IntKind.u64.wrap (IntKind.u64.wrap (u * 4294967296) + v) - IntKind.u64.wrap (q' * y))) s) ∧ 0 ≤ q' ∧ q' < 4294967296 ∧ q' * y ≤ u * 4294967296 + v ∧ u * 4294967296 + v < q' * y + y := by
  intro d
  induction d with
  | zero => intro k q r _ h; intros; omega
  | succ d ih =>
    intro k q r hk hd hr0 hr hq hq0 hq1 hlt
    obtain ⟨k, rfl⟩ : ∃ m, k = m + 2 := ⟨k - 2, by omega⟩
    have dec : q ≥ 4294967296 ∨ q * yn0 > 4294967296 * r + v → ∃ q', bits_Div64.j4 (k + 1) y s yn1 yn0 v q1 r u q true = some (IntKind.u64.wrap (IntKind.u64.wrap (q1 * 4294967296) + q'), shr .u64 (IntKind.u64.wrap (IntKind.u64.wrap (IntKind.u64.wrap (u * 4294967296) + v) - IntKind.u64.wrap (q' * y))) s) ∧ 0 ≤ q' ∧ q' < 4294967296 ∧ q' * y ≤ u * 4294967296 + v ∧ u * 4294967296 + v < q' * y + y := by
      intro hc
      obtain ⟨g1, g2⟩ := kn_dec hy hu0 hu hv0 hv hq hq0 hc
      have e1 : (q - 1) * y = q * y - y := by rw [Int.sub_mul, Int.one_mul]
      have e2 : (q - 1) * yn1 = q * yn1 - yn1 := by rw [Int.sub_mul, Int.one_mul]
      simp only [bits_Div64.j4, ↓reduceIte]
      rw [wrap_id (x := q - 1) ⟨by omega, by omega⟩, wrap_id (x := r + yn1) ⟨by omega, by omega⟩]
      by_cases c : r + yn1 ≥ 4294967296
      · rw [if_pos c, if_pos hs]
        have b := kn_brk (q := q - 1) (r := r + yn1) (u := u) (v := v) hy h2 h2' hv0 (by omega) (by omega) (by omega) c
        exact ⟨q - 1, rfl, by omega, kn_low hy hu hu0 hv b, b, by omega⟩
      · rw [if_neg c]
        exact ih k (q - 1) (r + yn1) (by omega) (by omega) (by omega) (by omega) (by omega) (by omega) (by omega) (by omega)
    simp only [bits_Div64.l1]
    by_cases c1 : q ≥ 4294967296
    · rw [if_pos c1]
      exact dec (.inl c1)
    · rw [if_neg c1]
      have b1 := mul_bd hq0 (by omega : q ≤ 4294967295) h2 (by omega : yn0 ≤ 4294967295)
      rw [wrap_id (x := q * yn0) ⟨by omega, by omega⟩, wrap_id (x := 4294967296 * r) ⟨by omega, by omega⟩, wrap_id (x := 4294967296 * r + v) ⟨by omega, by omega⟩]
      by_cases c2 : q * yn0 > 4294967296 * r + v
      · rw [decide_eq_true c2]
        exact dec (.inr c2)
      · rw [decide_eq_false c2]
        simp only [bits_Div64.j4, Bool.false_eq_true, ↓reduceIte]
        rw [if_pos hs]
        have e := kn_eq (q := q) hy
        exact ⟨q, rfl, hq0, by omega, by omega, hlt⟩
/-- bits.Div64, where the quotient fits: the quotient and the rest. -/
theorem Div64_ok (k : Nat) (hk : 20 ≤ k) (hi lo y : Int) (h0 : 0 ≤ hi) (hl : U64 lo) (hy : y < 18446744073709551616) (hlt : hi < y) :
    bits_Div64.f k hi lo y = some ((hi * 18446744073709551616 + lo) / y, (hi * 18446744073709551616 + lo) % y) := by
  obtain ⟨hl0, hl1⟩ := hl
  unfold bits_Div64.f
  rw [if_neg (by omega), if_neg (by omega)]
  by_cases c0 : hi = 0
  · subst c0
    rw [if_pos rfl, tdiv_nonneg_eq hl0, tmod_nonneg_eq hl0, wrap_id ⟨div_nonneg hl0 (by omega), ?_⟩]
    · simp
    · have := div_le hl0 (by omega : 0 < y)
      omega
  · rw [if_neg c0]
    obtain ⟨k, rfl⟩ : ∃ m, k = m + 1 := ⟨k - 1, by omega⟩
    obtain ⟨s, s1, s2, s3, s4⟩ := LeadingZeros64_ok k y (by omega) hy
    rw [s2]
    simp only [Option.bind_some]
    have P0 := two_pow_pos s
    have R0 := two_pow_pos (64 - s)
    have PR := two_pow_split s (64 - s) 64 (by omega)
    rw [show ((2 : Int) ^ 64) = 18446744073709551616 from rfl] at PR
    rw [wrap_id (x := (s : Int)) ⟨by omega, by omega⟩, wrap_id (x := 64 - (s : Int)) ⟨by omega, by omega⟩, if_pos (by omega), if_pos (by omega)]
    have es : (min ((s : Int).toNat) IntKind.u64.bits) = s := by simp [IntKind.bits] <;> omega
    have es' : (min ((64 - (s : Int)).toNat) IntKind.u64.bits) = 64 - s := by simp [IntKind.bits] <;> omega
    have eY : shl .u64 y (s : Int) = y * 2 ^ s := by unfold shl; rw [es, wrap_id ⟨by omega, s4⟩]
    have eH0 : hi * 2 ^ s ≤ y * 2 ^ s - 2 ^ s := by
      have := Int.mul_le_mul_of_nonneg_right (by omega : hi + 1 ≤ y) (Int.le_of_lt P0)
      rw [Int.add_mul, Int.one_mul] at this
      omega
    have eH1 : 0 ≤ hi * 2 ^ s := Int.mul_nonneg h0 (Int.le_of_lt P0)
    have eH : shl .u64 hi (s : Int) = hi * 2 ^ s := by unfold shl; rw [es, wrap_id ⟨eH1, by omega⟩]
    have eL : shr .u64 lo (64 - (s : Int)) = lo / 2 ^ (64 - s) := by unfold shr; rw [es']
    have eLl : lo / 2 ^ (64 - s) < 2 ^ s := div_lt R0 (by rw [PR]; exact hl1)
    have eL0 : 0 ≤ lo / 2 ^ (64 - s) := div_nonneg hl0 R0
    have eU : Go.bits .or .u64 (hi * 2 ^ s) (lo / 2 ^ (64 - s)) = hi * 2 ^ s + lo / 2 ^ (64 - s) :=
      bits_join .u64 64 (by decide) (fun n a b => wrap_id ⟨a, b⟩) s _ _ eH1 (Int.mul_emod_left _ _) (by show _ < (18446744073709551616 : Int); omega) eL0 eLl (by show _ < (18446744073709551616 : Int); omega)
    obtain ⟨d1, d2, d3⟩ := div_rest (n := lo) R0
    have eLo : lo * 2 ^ s = lo / 2 ^ (64 - s) * 18446744073709551616 + lo % 2 ^ (64 - s) * 2 ^ s := by
      conv => lhs; rw [← d1, Int.add_mul, Int.mul_assoc, Int.mul_comm (2 ^ (64 - s)), PR]
    have eR1 : lo % 2 ^ (64 - s) * 2 ^ s < 18446744073709551616 := by
      have := Int.mul_lt_mul_of_pos_right d3 P0
      rw [Int.mul_comm (2 ^ (64 - s)), PR] at this
      exact this
    have eR0 : 0 ≤ lo % 2 ^ (64 - s) * 2 ^ s := Int.mul_nonneg d2 (Int.le_of_lt P0)
    have eN : shl .u64 lo (s : Int) = lo % 2 ^ (64 - s) * 2 ^ s := by
      unfold shl
      rw [es, wrap_u64, eLo]
      omega
    have eA : Go.bits .and .u64 (y * 2 ^ s) 4294967295 = y * 2 ^ s % 4294967296 :=
      bits_mask .u64 64 (by decide) (fun n a b => wrap_id ⟨a, b⟩) 32 (by decide) _ (by omega) (by show _ < (18446744073709551616 : Int); omega)
    have eB : Go.bits .and .u64 (lo % 2 ^ (64 - s) * 2 ^ s) 4294967295 = lo % 2 ^ (64 - s) * 2 ^ s % 4294967296 :=
      bits_mask .u64 64 (by decide) (fun n a b => wrap_id ⟨a, b⟩) 32 (by decide) _ eR0 (by show _ < (18446744073709551616 : Int); omega)
    rw [eY, eH, eL, eN, eU, eA, eB]
    have eT : (hi * 18446744073709551616 + lo) * 2 ^ s = (hi * 2 ^ s + lo / 2 ^ (64 - s)) * 18446744073709551616 + lo % 2 ^ (64 - s) * 2 ^ s := by
      rw [Int.add_mul, eLo, Int.add_mul, Int.mul_assoc, Int.mul_comm 18446744073709551616 (2 ^ s), ← Int.mul_assoc]
      omega
    obtain ⟨z1, z2⟩ := div_scale (n := hi * 18446744073709551616 + lo) (y := y) P0 (by omega)
    rw [← z1, eT] at *
    generalize hU : hi * 2 ^ s + lo / 2 ^ (64 - s) = U at *
    generalize hV : lo % 2 ^ (64 - s) * 2 ^ s = V at *
    generalize hY : y * 2 ^ s = Y at *
    have hUY : U < Y := by omega
    have hU0 : 0 ≤ U := by omega
    have y1 : Y = Y / 4294967296 * 4294967296 + Y % 4294967296 := by omega
    rw [if_neg (by omega)]
    have n1 : 0 < Y / 4294967296 := by omega
    obtain ⟨g1, g2, g3⟩ := div_rest (n := U) n1
    have gq : U / (Y / 4294967296) < 4294967298 := div_lt n1 (by omega)
    have gq0 := div_nonneg hU0 n1
    rw [tdiv_nonneg_eq hU0, wrap_id (x := U / (Y / 4294967296)) ⟨gq0, by omega⟩]
    have gp0 : 0 ≤ U / (Y / 4294967296) * (Y / 4294967296) := Int.mul_nonneg gq0 (by omega)
    rw [wrap_id (x := U / (Y / 4294967296) * (Y / 4294967296)) ⟨gp0, by omega⟩, wrap_id (x := U - U / (Y / 4294967296) * (Y / 4294967296)) ⟨by omega, by omega⟩]
    have start : ∀ (u v : Int), 0 ≤ u → u < Y → 0 ≤ v → v < 4294967296 → u * 4294967296 + v < u / (Y / 4294967296) * Y + Y := by
      intro u v hu0 huY hv0 hv
      obtain ⟨f1, f2, f3⟩ := div_rest (n := u) n1
      have e := kn_eq (q := u / (Y / 4294967296)) y1
      have := Int.mul_nonneg (div_nonneg hu0 n1) (by omega : 0 ≤ Y % 4294967296)
      omega
    obtain ⟨k', q1, a1, a2, a3, a4, a5, a6⟩ := Div64_l0 Y s (Y / 4294967296) (Y % 4294967296) U (V / 4294967296) (V % 4294967296) y1 (by omega) (by omega) (by omega) (by omega) hU0 hUY (by omega) (by omega) 2 (k + 1) (U / (Y / 4294967296)) (U - U / (Y / 4294967296) * (Y / 4294967296)) (by omega) (by omega) (by omega) (by omega) (by omega) gq0 (by omega) (start U _ hU0 hUY (by omega) (by omega))
    rw [a2]
    obtain ⟨k', rfl⟩ : ∃ m, k' = m + 1 := ⟨k' - 1, by omega⟩
    simp only [bits_Div64.j2]
    rw [if_neg (by omega)]
    have w1 : IntKind.u64.wrap (IntKind.u64.wrap (IntKind.u64.wrap (U * 4294967296) + V / 4294967296) - IntKind.u64.wrap (q1 * Y)) = U * 4294967296 + V / 4294967296 - q1 * Y := by
      simp only [wrap_u64]
      omega
    rw [w1]
    generalize hu2 : U * 4294967296 + V / 4294967296 - q1 * Y = u2 at *
    obtain ⟨b1, b2, b3⟩ := div_rest (n := u2) n1
    have bq : u2 / (Y / 4294967296) < 4294967298 := div_lt n1 (by omega)
    have bq0 := div_nonneg (by omega : 0 ≤ u2) n1
    rw [tdiv_nonneg_eq (by omega : 0 ≤ u2), wrap_id (x := u2 / (Y / 4294967296)) ⟨bq0, by omega⟩]
    have bp0 : 0 ≤ u2 / (Y / 4294967296) * (Y / 4294967296) := Int.mul_nonneg bq0 (by omega)
    rw [wrap_id (x := u2 / (Y / 4294967296) * (Y / 4294967296)) ⟨bp0, by omega⟩, wrap_id (x := u2 - u2 / (Y / 4294967296) * (Y / 4294967296)) ⟨by omega, by omega⟩]
    obtain ⟨q0, c1, c2, c3, c4, c5⟩ := Div64_l1 Y s (Y / 4294967296) (Y % 4294967296) u2 (V % 4294967296) q1 y1 (by omega) (by omega) (by omega) (by omega) (by omega) (by omega) (by omega) (by omega) (by omega) 2 k' (u2 / (Y / 4294967296)) (u2 - u2 / (Y / 4294967296) * (Y / 4294967296)) (by omega) (by omega) (by omega) (by omega) (by omega) bq0 (by omega) (start u2 _ (by omega) (by omega) (by omega) (by omega))
    rw [c1]
    have eq : (q1 * 4294967296 + q0) * Y = q1 * Y * 4294967296 + q0 * Y := by
      rw [Int.add_mul, Int.mul_assoc, Int.mul_comm 4294967296 Y, ← Int.mul_assoc]
    obtain ⟨r1, r2⟩ := div_uniq (n := U * 18446744073709551616 + V) (y := Y) (q := q1 * 4294967296 + q0) (by omega) (by omega)
    have w2 : IntKind.u64.wrap (IntKind.u64.wrap (IntKind.u64.wrap (u2 * 4294967296) + V % 4294967296) - IntKind.u64.wrap (q0 * Y)) = u2 * 4294967296 + V % 4294967296 - q0 * Y := by
      simp only [wrap_u64]
      omega
    have w3 : IntKind.u64.wrap (IntKind.u64.wrap (q1 * 4294967296) + q0) = q1 * 4294967296 + q0 := by
      simp only [wrap_u64]
      omega
    rw [w2, w3, r1]
    have w4 : u2 * 4294967296 + V % 4294967296 - q0 * Y = (U * 18446744073709551616 + V) % Y := by rw [r2]; omega
    rw [w4, z2]
    unfold shr
    rw [es, Int.mul_ediv_cancel _ (by omega)]
/-- The number that two words stand for. -/
def wv (h l : Int) : Int := h * 18446744073709551616 + l
theorem wv_bd {h l : Int} (hh : U64 h) (hl : U64 l) : 0 ≤ wv h l ∧ wv h l < 340282366920938463463374607431768211456 := by
  obtain ⟨_, _⟩ := hh; obtain ⟨_, _⟩ := hl; unfold wv; omega
theorem wv_hi {h l : Int} (hl : U64 l) : wv h l / 18446744073709551616 = h := by obtain ⟨_, _⟩ := hl; unfold wv; omega
theorem wv_lo {h l : Int} (hl : U64 l) : wv h l % 18446744073709551616 = l := by obtain ⟨_, _⟩ := hl; unfold wv; omega
theorem wv_of {n : Int} : wv (n / 18446744073709551616) (n % 18446744073709551616) = n := by unfold wv; omega
theorem wv_zero {l : Int} : wv 0 l = l := by unfold wv; omega
theorem U64_hi {n : Int} (h0 : 0 ≤ n) (h1 : n < 340282366920938463463374607431768211456) : U64 (n / 18446744073709551616) := ⟨by omega, by omega⟩
theorem U64_lo {n : Int} : U64 (n % 18446744073709551616) := ⟨by omega, by omega⟩
theorem U64_zero : U64 0 := ⟨by decide, by decide⟩

section
variable {a0 a1 b0 b1 : Int}
theorem wide_Add_ok (h0 : U64 a0) (h1 : U64 a1) (h2 : U64 b0) (h3 : U64 b1) (h : wv a0 a1 + wv b0 b1 < 340282366920938463463374607431768211456) :
    wide_Add.f a0 a1 b0 b1 = some ((wv a0 a1 + wv b0 b1) / 18446744073709551616, (wv a0 a1 + wv b0 b1) % 18446744073709551616, 0) := by
  obtain ⟨_, _⟩ := h0; obtain ⟨_, _⟩ := h1; obtain ⟨_, _⟩ := h2; obtain ⟨_, _⟩ := h3
  unfold wv at *
  unfold wide_Add.f bits_Add64.f
  rw [if_pos ⟨by omega, by omega, by omega, by omega⟩]
  simp only [Option.bind_some]
  rw [if_pos ⟨by omega, by omega, by omega, by omega⟩]
  simp only [Option.bind_some]
  rw [if_pos (by omega)]
  congr 3 <;> omega
theorem wide_Add_err (h0 : U64 a0) (h1 : U64 a1) (h2 : U64 b0) (h3 : U64 b1) (h : 340282366920938463463374607431768211456 ≤ wv a0 a1 + wv b0 b1) :
    wide_Add.f a0 a1 b0 b1 = some (0, 0, 16) := by
  obtain ⟨_, _⟩ := h0; obtain ⟨_, _⟩ := h1; obtain ⟨_, _⟩ := h2; obtain ⟨_, _⟩ := h3
  unfold wv at *
  unfold wide_Add.f bits_Add64.f
  rw [if_pos ⟨by omega, by omega, by omega, by omega⟩]
  simp only [Option.bind_some]
  rw [if_pos ⟨by omega, by omega, by omega, by omega⟩]
  simp only [Option.bind_some]
  rw [if_neg (by omega)]
theorem wide_Sub_ok (h0 : U64 a0) (h1 : U64 a1) (h2 : U64 b0) (h3 : U64 b1) (h : wv b0 b1 ≤ wv a0 a1) :
    wide_Sub.f a0 a1 b0 b1 = some ((wv a0 a1 - wv b0 b1) / 18446744073709551616, (wv a0 a1 - wv b0 b1) % 18446744073709551616, 0) := by
  obtain ⟨_, _⟩ := h0; obtain ⟨_, _⟩ := h1; obtain ⟨_, _⟩ := h2; obtain ⟨_, _⟩ := h3
  unfold wv at *
  unfold wide_Sub.f bits_Sub64.f
  by_cases c : a1 < b1 + 0
  · rw [if_pos ⟨by omega, by omega, by omega, by omega, by omega⟩, if_pos c]
    simp only [Option.bind_some]
    rw [if_pos ⟨by omega, by omega, by omega, by omega, by omega⟩, if_neg (by omega)]
    simp only [Option.bind_some, ↓reduceIte]
    congr 3 <;> omega
  · rw [if_pos ⟨by omega, by omega, by omega, by omega, by omega⟩, if_neg c]
    simp only [Option.bind_some]
    rw [if_pos ⟨by omega, by omega, by omega, by omega, by omega⟩, if_neg (by omega)]
    simp only [Option.bind_some, ↓reduceIte]
    congr 3 <;> omega
theorem wide_Of_ok : wide_Of.f a0 = some (0, a0) := rfl
/-- The order of two numbers. -/
def wcmp (a b : Int) : Int := if a < b then -1 else if a = b then 0 else 1
theorem wcmp_neg {a b : Int} : wcmp a b < 0 ↔ a < b := by unfold wcmp; split <;> (try split) <;> omega
theorem wcmp_pos {a b : Int} : wcmp a b > 0 ↔ b < a := by unfold wcmp; split <;> (try split) <;> omega
theorem cmp_Compare_ok (a b : Int) : cmp_Compare_uint64.f a b = some (wcmp a b) := by
  unfold cmp_Compare_uint64.f cmp_isNaN_uint64.f wcmp
  have e : ∀ x : Int, (x != x) = false := fun x => by simp
  simp only [e, Option.bind_some]
  rw [if_neg (by decide), if_neg (by decide)]
  by_cases c : a < b
  · rw [if_pos c, if_pos c]
  · rw [if_neg c, if_neg c]
    by_cases d : a > b
    · rw [if_pos d, if_neg (by omega)]
    · rw [if_neg d, if_pos (by omega)]
theorem w01 : wrap64 (0 + 1) = 1 := by unfold wrap64; omega
theorem w11 : wrap64 (1 + 1) = 2 := by unfold wrap64; omega
theorem cmp_Or_two (k : Nat) (x y : Int) : cmp_Or_int.f (k + 3) [x, y] = some (if x = 0 then y else x) := by
  unfold cmp_Or_int.f
  simp only [cmp_Or_int.l0, List.length_cons, List.length_nil, w01, w11]
  have e0 : rd [x, y] 0 = x := rfl
  have e1 : rd [x, y] 1 = y := rfl
  rw [e0, e1, if_pos (by decide), if_pos (by decide), if_pos (by decide)]
  by_cases c : x = 0
  · rw [if_pos c, if_pos c, if_pos (by decide), if_pos (by decide), if_pos (by decide)]
    by_cases d : y = 0
    · rw [if_pos d, if_neg (by decide), d]
    · rw [if_neg d]
  · rw [if_neg c, if_neg c]
theorem wide_Cmp_ok (k : Nat) (h1 : U64 a1) (h3 : U64 b1) : wide_Cmp.f (k + 3) a0 a1 b0 b1 = some (wcmp (wv a0 a1) (wv b0 b1)) := by
  obtain ⟨_, _⟩ := h1; obtain ⟨_, _⟩ := h3
  unfold wide_Cmp.f
  rw [cmp_Compare_ok, cmp_Compare_ok]
  simp only [Option.bind_some, cmp_Or_two]
  congr 1
  unfold wcmp wv
  split <;> (try split) <;> (try split) <;> (try split) <;> (try split) <;> (try split) <;> omega
theorem ref_Cmp_ok (k : Nat) (h1 : U64 a1) (h3 : U64 b1) : spigotref01_Cmp.f (k + 1) a0 a1 b0 b1 = some (wcmp (wv a0 a1) (wv b0 b1)) := by
  obtain ⟨_, _⟩ := h1; obtain ⟨_, _⟩ := h3
  unfold spigotref01_Cmp.f
  simp only [spigotref01_Cmp.j0]
  unfold wcmp wv
  by_cases c : a0 < b0
  · rw [if_pos c]
    simp only [↓reduceIte]
    rw [if_pos (by omega)]
  · rw [if_neg c]
    by_cases d : a0 = b0
    · rw [if_pos d]
      by_cases e : a1 < b1
      · simp only [decide_eq_true e, ↓reduceIte]
        rw [if_pos (by omega)]
      · simp only [decide_eq_false e, Bool.false_eq_true, ↓reduceIte]
        rw [if_neg (c := a0 * 18446744073709551616 + a1 < b0 * 18446744073709551616 + b1) (by omega)]
        by_cases f : a1 = b1
        · rw [if_pos (by simp [d, f]), if_pos (by omega)]
        · rw [if_neg (by simp [d, f]), if_neg (by omega)]
    · simp only [if_neg d, Bool.false_eq_true, ↓reduceIte]
      rw [if_neg (by simp [d]), if_neg (by omega), if_neg (by omega)]
theorem ref_Add_ok (h0 : U64 a0) (h1 : U64 a1) (h2 : U64 b0) (h3 : U64 b1) : spigotref01_Add.f a0 a1 b0 b1 = wide_Add.f a0 a1 b0 b1 := by
  have g0 := h0; have g1 := h1; have g2 := h2; have g3 := h3
  obtain ⟨_, _⟩ := g0; obtain ⟨_, _⟩ := g1; obtain ⟨_, _⟩ := g2; obtain ⟨_, _⟩ := g3
  unfold spigotref01_Add.f
  simp only [wrap_u64]
  by_cases o : wv a0 a1 + wv b0 b1 < 340282366920938463463374607431768211456
  · rw [wide_Add_ok h0 h1 h2 h3 o]
    unfold wv at *
    by_cases c : b1 > (18446744073709551615 - a1) % 18446744073709551616
    · rw [if_pos c, if_neg (by omega), if_neg (by omega)]
      congr 3 <;> omega
    · rw [if_neg c, if_neg (by omega)]
      congr 3 <;> omega
  · rw [wide_Add_err h0 h1 h2 h3 (by omega)]
    unfold wv at *
    by_cases c : b1 > (18446744073709551615 - a1) % 18446744073709551616
    · rw [if_pos c]
      by_cases d : b0 > (18446744073709551615 - a0) % 18446744073709551616
      · rw [if_pos d]
      · rw [if_neg d, if_pos (by omega)]
    · rw [if_neg c, if_pos (by omega)]
end
theorem and_mask {x : Int} (h0 : 0 ≤ x) (h1 : x < 18446744073709551616) : Go.bits .and .u64 x 4294967295 = x % 4294967296 :=
  bits_mask .u64 64 (by decide) (fun n a b => wrap_id ⟨a, b⟩) 32 (by decide) x h0 h1
theorem mul_parts (x y : Int) : x * y = (x / 4294967296) * (y / 4294967296) * 18446744073709551616 + ((x / 4294967296) * (y % 4294967296) + (x % 4294967296) * (y / 4294967296)) * 4294967296 + (x % 4294967296) * (y % 4294967296) := by
  have hx : x = x / 4294967296 * 4294967296 + x % 4294967296 := by omega
  have hy : y = y / 4294967296 * 4294967296 + y % 4294967296 := by omega
  generalize x / 4294967296 = x1 at *
  generalize x % 4294967296 = x0 at *
  generalize y / 4294967296 = y1 at *
  generalize y % 4294967296 = y0 at *
  subst hx; subst hy
  rw [Int.add_mul, Int.mul_add, Int.mul_add]
  have e1 : x1 * 4294967296 * (y1 * 4294967296) = x1 * y1 * 18446744073709551616 := by
    rw [Int.mul_assoc, Int.mul_comm 4294967296 (y1 * 4294967296), Int.mul_assoc y1, ← Int.mul_assoc]; rfl
  have e2 : x1 * 4294967296 * y0 = x1 * y0 * 4294967296 := by rw [Int.mul_assoc, Int.mul_comm 4294967296, ← Int.mul_assoc]
  have e3 : x0 * (y1 * 4294967296) = x0 * y1 * 4294967296 := by rw [Int.mul_assoc]
  rw [e1, e2, e3]
  omega
section
variable {x y : Int}
theorem parts_bd (hx : U64 x) (hy : U64 y) :
    (0 ≤ (x / 4294967296) * (y / 4294967296) ∧ (x / 4294967296) * (y / 4294967296) ≤ 18446744065119617025) ∧ (0 ≤ (x / 4294967296) * (y % 4294967296) ∧ (x / 4294967296) * (y % 4294967296) ≤ 18446744065119617025) ∧
    (0 ≤ (x % 4294967296) * (y / 4294967296) ∧ (x % 4294967296) * (y / 4294967296) ≤ 18446744065119617025) ∧ (0 ≤ (x % 4294967296) * (y % 4294967296) ∧ (x % 4294967296) * (y % 4294967296) ≤ 18446744065119617025) := by
  obtain ⟨_, _⟩ := hx; obtain ⟨_, _⟩ := hy
  have b : ∀ a b : Int, 0 ≤ a → a ≤ 4294967295 → 0 ≤ b → b ≤ 4294967295 → 0 ≤ a * b ∧ a * b ≤ 18446744065119617025 := fun a b h0 h1 h2 h3 => mul_bd h0 h1 h2 h3
  exact ⟨b _ _ (by omega) (by omega) (by omega) (by omega), b _ _ (by omega) (by omega) (by omega) (by omega), b _ _ (by omega) (by omega) (by omega) (by omega), b _ _ (by omega) (by omega) (by omega) (by omega)⟩
theorem bits_Mul64_ok (hx : U64 x) (hy : U64 y) : bits_Mul64.f x y = some (x * y / 18446744073709551616, x * y % 18446744073709551616) := by
  obtain ⟨⟨a1, a2⟩, ⟨b1, b2⟩, ⟨c1, c2⟩, ⟨d1, d2⟩⟩ := parts_bd hx hy
  have e := mul_parts x y
  obtain ⟨hx0, hx1⟩ := hx; obtain ⟨hy0, hy1⟩ := hy
  unfold bits_Mul64.f
  rw [and_mask hx0 hx1, and_mask hy0 hy1, wrap_u64 (x * y)]
  generalize x / 4294967296 * (y / 4294967296) = p11 at *
  generalize x / 4294967296 * (y % 4294967296) = p10 at *
  generalize x % 4294967296 * (y / 4294967296) = p01 at *
  generalize x % 4294967296 * (y % 4294967296) = p00 at *
  generalize x * y = n at *
  rw [wrap_id (x := p11) ⟨by omega, by omega⟩, wrap_id (x := p10) ⟨by omega, by omega⟩, wrap_id (x := p00) ⟨by omega, by omega⟩, wrap_id (x := p01) ⟨by omega, by omega⟩,
    wrap_id (x := p10 + p00 / 4294967296) ⟨by omega, by omega⟩, and_mask (by omega) (by omega), wrap_id (x := (p10 + p00 / 4294967296) % 4294967296 + p01) ⟨by omega, by omega⟩,
    wrap_id (x := p11 + (p10 + p00 / 4294967296) / 4294967296) ⟨by omega, by omega⟩, wrap_id ⟨by omega, by omega⟩]
  congr 2
  omega
theorem wide_Mul_ok (hx : U64 x) (hy : U64 y) : wide_Mul.f x y = some (x * y / 18446744073709551616, x * y % 18446744073709551616) := by
  unfold wide_Mul.f
  rw [bits_Mul64_ok hx hy]
  rfl
theorem ref_Mul_ok (hx : U64 x) (hy : U64 y) : spigotref01_Mul.f x y = some (x * y / 18446744073709551616, x * y % 18446744073709551616) := by
  obtain ⟨⟨a1, a2⟩, ⟨b1, b2⟩, ⟨c1, c2⟩, ⟨d1, d2⟩⟩ := parts_bd hx hy
  have e := mul_parts x y
  obtain ⟨hx0, hx1⟩ := hx; obtain ⟨hy0, hy1⟩ := hy
  unfold spigotref01_Mul.f
  rw [tdiv_nonneg_eq hx0, tdiv_nonneg_eq hy0, tmod_nonneg_eq hx0, tmod_nonneg_eq hy0, wrap_id (x := x / 4294967296) ⟨by omega, by omega⟩, wrap_id (x := y / 4294967296) ⟨by omega, by omega⟩]
  generalize x / 4294967296 * (y / 4294967296) = p11 at *
  generalize x / 4294967296 * (y % 4294967296) = p10 at *
  generalize x % 4294967296 * (y / 4294967296) = p01 at *
  generalize x % 4294967296 * (y % 4294967296) = p00 at *
  generalize x * y = n at *
  rw [wrap_id (x := p11) ⟨by omega, by omega⟩, wrap_id (x := p10) ⟨by omega, by omega⟩, wrap_id (x := p00) ⟨by omega, by omega⟩, wrap_id (x := p01) ⟨by omega, by omega⟩,
    tdiv_nonneg_eq b1, tdiv_nonneg_eq c1, tdiv_nonneg_eq d1, tmod_nonneg_eq b1, tmod_nonneg_eq c1, tmod_nonneg_eq d1,
    wrap_id (x := p10 / 4294967296) ⟨by omega, by omega⟩, wrap_id (x := p01 / 4294967296) ⟨by omega, by omega⟩, wrap_id (x := p00 / 4294967296) ⟨by omega, by omega⟩,
    wrap_id (x := p00 / 4294967296 + p10 % 4294967296) ⟨by omega, by omega⟩, wrap_id (x := p00 / 4294967296 + p10 % 4294967296 + p01 % 4294967296) ⟨by omega, by omega⟩,
    tdiv_nonneg_eq (by omega : 0 ≤ p00 / 4294967296 + p10 % 4294967296 + p01 % 4294967296), tmod_nonneg_eq (by omega : 0 ≤ p00 / 4294967296 + p10 % 4294967296 + p01 % 4294967296),
    wrap_id (x := (p00 / 4294967296 + p10 % 4294967296 + p01 % 4294967296) / 4294967296) ⟨by omega, by omega⟩, wrap_id (x := p11 + p10 / 4294967296) ⟨by omega, by omega⟩, wrap_id (x := p11 + p10 / 4294967296 + p01 / 4294967296) ⟨by omega, by omega⟩,
    wrap_id (x := p11 + p10 / 4294967296 + p01 / 4294967296 + _) ⟨by omega, by omega⟩, wrap_id (x := (p00 / 4294967296 + p10 % 4294967296 + p01 % 4294967296) % 4294967296 * 4294967296) ⟨by omega, by omega⟩, wrap_id ⟨by omega, by omega⟩]
  congr 2 <;> omega
end
section
variable {a0 a1 d : Int}
theorem wide_Div_ok (k : Nat) (hk : 20 ≤ k) (h0 : U64 a0) (h1 : U64 a1) (hd : 0 < d) (hd1 : d < 18446744073709551616) :
    wide_Div.f k a0 a1 d = some (wv a0 a1 / d / 18446744073709551616, wv a0 a1 / d % 18446744073709551616, wv a0 a1 % d, 0) := by
  obtain ⟨r1, r2, r3⟩ := div_rest (n := a0) hd
  have l0 := div_nonneg h0.1 hd
  have l1 := div_le h0.1 hd
  unfold wide_Div.f
  rw [if_neg (by omega), Div64_ok k hk 0 a0 d (by omega) h0 hd1 hd]
  simp only [Option.bind_some, Int.zero_mul, Int.zero_add]
  rw [Div64_ok k hk (a0 % d) a1 d r2 h1 hd1 r3]
  simp only [Option.bind_some]
  obtain ⟨g1, g2⟩ := h1
  obtain ⟨s1, s2, s3⟩ := div_rest (n := a0 % d * 18446744073709551616 + a1) hd
  have q0 := div_nonneg (n := a0 % d * 18446744073709551616 + a1) (by omega) hd
  have q1 : (a0 % d * 18446744073709551616 + a1) / d < 18446744073709551616 := div_lt hd (by omega)
  generalize (a0 % d * 18446744073709551616 + a1) / d = Q at *
  generalize (a0 % d * 18446744073709551616 + a1) % d = R at *
  generalize a0 / d = P at *
  have e : (P * 18446744073709551616 + Q) * d = P * d * 18446744073709551616 + Q * d := by
    rw [Int.add_mul, Int.mul_assoc, Int.mul_comm 18446744073709551616 d, ← Int.mul_assoc]
  obtain ⟨z1, z2⟩ := div_uniq (n := wv a0 a1) (y := d) (q := P * 18446744073709551616 + Q) (by unfold wv; omega) (by unfold wv; omega)
  rw [z1, z2, e]
  unfold wv
  congr 2
  · omega
  · congr 2
    · omega
    · congr 1
      omega
/-- The raised quotient. -/
def cdiv (n d : Int) : Int := (n + d - 1) / d
theorem cdiv_eq {n d : Int} (hd : 0 < d) : cdiv n d = if n % d = 0 then n / d else n / d + 1 := by
  unfold cdiv
  obtain ⟨r1, r2, r3⟩ := div_rest (n := n) hd
  split
  · exact (div_uniq (by omega) (by omega)).1
  · have e : (n / d + 1) * d = n / d * d + d := by rw [Int.add_mul, Int.one_mul]
    exact (div_uniq (by omega) (by omega)).1
theorem quot_bd (h0 : U64 a0) (h1 : U64 a1) (hd : 0 < d) : 0 ≤ wv a0 a1 / d ∧ wv a0 a1 / d < 340282366920938463463374607431768211456 := by
  obtain ⟨b0, b1⟩ := wv_bd h0 h1
  have := div_le b0 hd
  exact ⟨div_nonneg b0 hd, by omega⟩
theorem quot_up_bd (h0 : U64 a0) (h1 : U64 a1) (hd : 0 < d) : 0 ≤ cdiv (wv a0 a1) d ∧ cdiv (wv a0 a1) d < 340282366920938463463374607431768211456 := by
  obtain ⟨b0, b1⟩ := wv_bd h0 h1
  obtain ⟨q0, q1⟩ := quot_bd h0 h1 hd
  obtain ⟨r1, r2, r3⟩ := div_rest (n := wv a0 a1) hd
  rw [cdiv_eq hd]
  split
  · exact ⟨q0, q1⟩
  · have h2 : wv a0 a1 / d * 2 ≤ wv a0 a1 / d * d := Int.mul_le_mul_of_nonneg_left (by omega) q0
    omega
theorem wide_Up_ok (k : Nat) (hk : 20 ≤ k) (h0 : U64 a0) (h1 : U64 a1) (hd : 0 < d) (hd1 : d < 18446744073709551616) :
    wide_Up.f k a0 a1 d = some (cdiv (wv a0 a1) d / 18446744073709551616, cdiv (wv a0 a1) d % 18446744073709551616, 0) := by
  obtain ⟨q0, q1⟩ := quot_bd h0 h1 hd
  obtain ⟨u0, u1⟩ := quot_up_bd h0 h1 hd
  unfold wide_Up.f
  rw [wide_Div_ok k hk h0 h1 hd hd1]
  obtain ⟨k, rfl⟩ : ∃ m, k = m + 1 := ⟨k - 1, by omega⟩
  simp only [Option.bind_some, wide_Up.j0, ↓reduceIte]
  rw [cdiv_eq hd] at u0 u1 ⊢
  by_cases c : wv a0 a1 % d = 0
  · rw [if_pos (by simp [c]), if_pos c]
  · rw [if_neg c] at u0 u1
    rw [if_neg (by simpa using c), if_neg c, wide_Of_ok]
    simp only [Option.bind_some]
    rw [wide_Add_ok (U64_hi q0 q1) U64_lo U64_zero ⟨by decide, by decide⟩ (by rw [wv_of, wv_zero]; omega), wv_of, wv_zero]
    rfl
end
/-- A valid limit: Burst, Rate, Per. -/
def VL (b r p : Int) : Prop := 1 ≤ b ∧ b ≤ 1000000000 ∧ 0 ≤ r ∧ r ≤ 1000000000 ∧ 1 ≤ p ∧ p ≤ 1000000000
/-- A valid bucket: its limit, Level, Part, At. -/
def VB (b r p l q t : Int) : Prop := VL b r p ∧ 0 ≤ l ∧ l ≤ b ∧ 0 ≤ q ∧ q < p ∧ (l = b → q = 0) ∧ U64 t
section
variable {b r p l q t s : Int}
theorem CheckLimit_ok (h : VL b r p) : bucket_CheckLimit.f b r p = some 0 := by
  obtain ⟨_, _, _, _, _, _⟩ := h
  unfold bucket_CheckLimit.f
  rw [if_neg (by omega), if_neg (by omega), if_neg (by omega), if_neg (by omega), if_neg (by omega), if_neg (by omega)]
theorem CheckLimit_bad (h : ¬ VL b r p) : bucket_CheckLimit.f b r p = some 8 := by
  unfold bucket_CheckLimit.f
  unfold VL at h
  repeat' split
  all_goals first | rfl | (exfalso; omega)
/-- Level, Part and At behind a refill at t. -/
def fN (r q s t : Int) : Int := (t - s) * r + q
def fL (b r p l q s t : Int) : Int := if t ≤ s then l else if fN r q s t / p ≥ b - l then b else l + fN r q s t / p
def fP (b r p l q s t : Int) : Int := if t ≤ s then q else if fN r q s t / p ≥ b - l then 0 else fN r q s t % p
def fT (s t : Int) : Int := if t ≤ s then s else t
theorem fN_bd (hv : VB b r p l q s) (ht : U64 t) (h : s ≤ t) : 0 ≤ fN r q s t ∧ fN r q s t ≤ 18446744073709551615000000000 + 1000000000 ∧ 0 ≤ (t - s) * r ∧ (t - s) * r ≤ 18446744073709551615000000000 := by
  obtain ⟨⟨_, _, _, _, _, _⟩, _, _, _, _, _, ⟨_, _⟩⟩ := hv
  obtain ⟨_, _⟩ := ht
  have := mul_bd (by omega : 0 ≤ t - s) (by omega : t - s ≤ 18446744073709551615) (by assumption : 0 ≤ r) (by assumption : r ≤ 1000000000)
  unfold fN
  omega
/-- What a bucket holds behind a refill, in parts. -/
theorem fill_amt (hv : VB b r p l q s) (h : s ≤ t) :
    (l * p + q + (t - s) * r < b * p → fL b r p l q s t * p + fP b r p l q s t = l * p + q + (t - s) * r) ∧ (b * p ≤ l * p + q + (t - s) * r → fL b r p l q s t = b ∧ fP b r p l q s t = 0) := by
  obtain ⟨⟨b0, b1, r0, r1, p0, p1⟩, l0, l1, q0, q1, hf, _⟩ := hv
  unfold fL fP
  by_cases c : t ≤ s
  · rw [if_pos c, if_pos c]
    have : t = s := by omega
    subst this
    rw [Int.sub_self, Int.zero_mul, Int.add_zero]
    refine ⟨fun _ => rfl, fun h => ?_⟩
    rcases Int.lt_or_le l b with g | g
    · have := Int.mul_le_mul_of_nonneg_right (by omega : l + 1 ≤ b) (by omega : 0 ≤ p)
      rw [Int.add_mul, Int.one_mul] at this
      omega
    · exact ⟨by omega, hf (by omega)⟩
  · rw [if_neg c, if_neg c]
    obtain ⟨e1, e2, e3⟩ := div_rest (n := fN r q s t) (by omega : 0 < p)
    have ef : fN r q s t = (t - s) * r + q := rfl
    by_cases c3 : fN r q s t / p ≥ b - l
    · rw [if_pos c3, if_pos c3]
      have h1 := Int.mul_le_mul_of_nonneg_right c3 (by omega : 0 ≤ p)
      rw [Int.sub_mul] at h1
      exact ⟨fun h => by omega, fun _ => ⟨rfl, rfl⟩⟩
    · rw [if_neg c3, if_neg c3]
      have h1 := Int.mul_le_mul_of_nonneg_right (by omega : fN r q s t / p + 1 ≤ b - l) (by omega : 0 ≤ p)
      rw [Int.sub_mul, Int.add_mul, Int.one_mul] at h1
      rw [Int.add_mul]
      exact ⟨fun _ => by omega, fun h => by omega⟩
theorem fT_U64 (hs : U64 s) (ht : U64 t) : U64 (fT s t) := by unfold fT; split <;> assumption
theorem fill_valid (hv : VB b r p l q s) (ht : U64 t) : VB b r p (fL b r p l q s t) (fP b r p l q s t) (fT s t) := by
  have hv0 := hv
  obtain ⟨hl, l0, l1, q0, q1, hf, hs⟩ := hv
  refine ⟨hl, ?_⟩
  have hT := fT_U64 hs ht
  obtain ⟨b0, b1, r0, r1, p0, p1⟩ := hl
  by_cases c : t ≤ s
  · unfold fL fP
    rw [if_pos c, if_pos c]
    exact ⟨l0, l1, q0, q1, hf, hT⟩
  · obtain ⟨n0, n1, m0, m1⟩ := fN_bd hv0 ht (by omega : s ≤ t)
    unfold fL fP
    rw [if_neg c, if_neg c]
    obtain ⟨e1, e2, e3⟩ := div_rest (n := fN r q s t) (by omega : 0 < p)
    have d0 := div_nonneg n0 (by omega : 0 < p)
    by_cases c3 : fN r q s t / p ≥ b - l
    · rw [if_pos c3, if_pos c3]
      exact ⟨by omega, by omega, by omega, by omega, fun _ => rfl, hT⟩
    · rw [if_neg c3, if_neg c3]
      exact ⟨by omega, by omega, e2, e3, fun h => by omega, hT⟩
/-- The wait for a cost. -/
def wN (r p l q c : Int) : Int := cdiv ((c - l) * p - q) r
def waitOf (b r p l q s c : Int) : Int := if c ≤ l then 0 else if c > b ∨ r = 0 then 18446744073709551615 else if wN r p l q c > 18446744073709551615 - s then 18446744073709551615 else wN r p l q c
theorem miss_bd (hv : VB b r p l q s) {c : Int} (h1 : l < c) (h2 : c ≤ b) : 0 < (c - l) * p - q ∧ (c - l) * p ≤ 1000000000000000000 ∧ p ≤ (c - l) * p := by
  obtain ⟨⟨_, _, _, _, _, _⟩, _, _, _, _, _, _⟩ := hv
  have h := Int.mul_le_mul_of_nonneg_right (by omega : 1 ≤ c - l) (by omega : 0 ≤ p)
  have g := (mul_bd (by omega : 0 ≤ c - l) (by omega : c - l ≤ 1000000000) (by omega : 0 ≤ p) (by omega : p ≤ 1000000000)).2
  rw [Int.one_mul] at h
  omega
theorem cdiv_bd {n d : Int} (hd : 0 < d) (hn : 0 < n) : 0 < cdiv n d ∧ cdiv n d ≤ n ∧ n ≤ cdiv n d * d ∧ cdiv n d * d < n + d := by
  unfold cdiv
  obtain ⟨e1, e2⟩ := div_bd (n := n + d - 1) hd
  have h1 : 1 ≤ (n + d - 1) / d := le_div hd (by omega)
  have h2 : (n + d - 1) / d * 1 ≤ (n + d - 1) / d * d := Int.mul_le_mul_of_nonneg_left (by omega) (by omega)
  refine ⟨by omega, ?_, by omega, by omega⟩
  rcases Int.lt_or_le n ((n + d - 1) / d) with h | h
  · have h3 := Int.mul_le_mul_of_nonneg_right (by omega : n + 1 ≤ (n + d - 1) / d) (by omega : 0 ≤ d)
    rw [Int.add_mul, Int.one_mul] at h3
    have h4 : n * 1 ≤ n * d := Int.mul_le_mul_of_nonneg_left (by omega) (by omega)
    omega
  · exact h
end
section
variable {b r p l q t s c : Int}
theorem ref_CheckLimit_ok (h : VL b r p) : spigotref03_CheckLimit.f b r p = some 0 := CheckLimit_ok h
theorem ref_CheckLimit_bad (h : ¬ VL b r p) : spigotref03_CheckLimit.f b r p = some 8 := CheckLimit_bad h
end
section
variable {b r p l q t s c : Int}
/-- A bucket holds a cost exactly if its parts are enough. -/
theorem holds_iff {L P : Int} (p0 : 0 < p) (q0 : 0 ≤ P) (q1 : P < p) : c ≤ L ↔ c * p ≤ L * p + P := by
  constructor
  · intro h
    have := Int.mul_le_mul_of_nonneg_right h (by omega : 0 ≤ p)
    omega
  · intro h
    rcases Int.lt_or_le L c with g | g
    · have := Int.mul_le_mul_of_nonneg_right (by omega : L + 1 ≤ c) (by omega : 0 ≤ p)
      rw [Int.add_mul, Int.one_mul] at this
      omega
    · exact g
/-- Refilled at t, it holds the cost c, at most Burst, exactly if what came in is enough. -/
theorem fill_holds (hv : VB b r p l q s) (ht : U64 t) (h : s ≤ t) (hc : c ≤ b) : c ≤ fL b r p l q s t ↔ c * p ≤ l * p + q + (t - s) * r := by
  have hv' := fill_valid hv ht
  obtain ⟨f1, f2⟩ := fill_amt hv h
  obtain ⟨⟨_, _, _, _, p0, _⟩, _⟩ := hv
  obtain ⟨_, _, _, g0, g1, _⟩ := hv'
  rw [holds_iff (by omega) g0 g1]
  rcases Int.lt_or_le (l * p + q + (t - s) * r) (b * p) with g | g
  · rw [f1 g]
  · obtain ⟨e1, e2⟩ := f2 g
    rw [e1, e2]
    have := Int.mul_le_mul_of_nonneg_right hc (by omega : 0 ≤ p)
    omega
theorem fL_le (hv : VB b r p l q s) (ht : U64 t) : fL b r p l q s t ≤ b := (fill_valid hv ht).2.2.1
/-- What is known of the wait w for a cost c. -/
theorem wait_spec (hv : VB b r p l q s) (hc : 0 ≤ c) : 0 ≤ waitOf b r p l q s c ∧ (waitOf b r p l q s c = 18446744073709551615 → l < c ∧ ∀ t, U64 t → s ≤ t → fL b r p l q s t < c) ∧
    (waitOf b r p l q s c ≠ 18446744073709551615 → waitOf b r p l q s c ≤ 18446744073709551615 - s ∧ waitOf b r p l q s c ≤ 1000000000000000000 ∧ (waitOf b r p l q s c = 0 ↔ c ≤ l) ∧ c ≤ b ∧
      ∀ t, U64 t → s ≤ t → (c ≤ fL b r p l q s t ↔ waitOf b r p l q s c ≤ t - s)) := by
  have hv0 := hv
  obtain ⟨⟨b0, b1, r0, r1, p0, p1⟩, l0, l1, q0, q1, hf, ⟨s0, s1⟩⟩ := hv
  by_cases c1 : c ≤ l
  · have e : waitOf b r p l q s c = 0 := by unfold waitOf; rw [if_pos c1]
    rw [e]
    refine ⟨by omega, fun h => by omega, fun _ => ⟨by omega, by omega, ⟨fun _ => c1, fun _ => rfl⟩, by omega, fun t ht hst => ⟨fun _ => by omega, fun _ => ?_⟩⟩⟩
    rw [fill_holds hv0 ht hst (by omega)]
    have h1 := Int.mul_le_mul_of_nonneg_right c1 (by omega : 0 ≤ p)
    have h2 := Int.mul_nonneg (by omega : 0 ≤ t - s) r0
    omega
  · by_cases c2 : c > b ∨ r = 0
    · have e : waitOf b r p l q s c = 18446744073709551615 := by unfold waitOf; rw [if_neg c1, if_pos c2]
      rw [e]
      refine ⟨by omega, fun _ => ⟨by omega, fun t ht hst => ?_⟩, fun h => absurd rfl h⟩
      rcases c2 with c2 | c2
      · have := fL_le hv0 ht
        omega
      · rcases Int.lt_or_le b c with g | g
        · have := fL_le hv0 ht
          omega
        · have h := fill_holds hv0 ht hst g
          subst c2
          rw [Int.mul_zero] at h
          have h2 := holds_iff (p := p) (c := c) (L := l) (P := q) (by omega) q0 q1
          omega
    · have c2' : c ≤ b ∧ r ≠ 0 := by omega
      obtain ⟨m0, m1, m2⟩ := miss_bd hv0 (by omega : l < c) c2'.1
      obtain ⟨d0, d1, d2, d3⟩ := cdiv_bd (d := r) (by omega : 0 < r) m0
      have ew : cdiv ((c - l) * p - q) r = wN r p l q c := rfl
      rw [ew] at d0 d1 d2 d3
      rw [Int.sub_mul] at m0 m1 m2 d1 d2 d3
      have key : ∀ t, U64 t → s ≤ t → (c ≤ fL b r p l q s t ↔ wN r p l q c ≤ t - s) := by
        intro t ht hst
        rw [fill_holds hv0 ht hst c2'.1]
        constructor
        · intro h
          rcases Int.lt_or_le (t - s) (wN r p l q c) with g | g
          · have h3 := Int.mul_le_mul_of_nonneg_right (by omega : (t - s) + 1 ≤ wN r p l q c) r0
            rw [Int.add_mul, Int.one_mul] at h3
            omega
          · exact g
        · intro h
          have h3 := Int.mul_le_mul_of_nonneg_right h r0
          omega
      by_cases c4 : wN r p l q c > 18446744073709551615 - s
      · have e : waitOf b r p l q s c = 18446744073709551615 := by unfold waitOf; rw [if_neg c1, if_neg c2, if_pos c4]
        rw [e]
        refine ⟨by omega, fun _ => ⟨by omega, fun t ht hst => ?_⟩, fun h => absurd rfl h⟩
        have := key t ht hst
        have := ht.2
        omega
      · have e : waitOf b r p l q s c = wN r p l q c := by unfold waitOf; rw [if_neg c1, if_neg c2, if_neg c4]
        rw [e]
        exact ⟨by omega, fun h => by omega, fun _ => ⟨by omega, by omega, ⟨fun h => by omega, fun h => absurd h c1⟩, c2'.1, key⟩⟩
end
section
variable {a0 a1 b0 b1 : Int}
theorem wide_Cmp_k (k : Nat) (hk : 10 ≤ k) (h1 : U64 a1) (h3 : U64 b1) : wide_Cmp.f k a0 a1 b0 b1 = some (wcmp (wv a0 a1) (wv b0 b1)) := by
  obtain ⟨m, rfl⟩ : ∃ m, k = m + 3 := ⟨k - 3, by omega⟩
  exact wide_Cmp_ok m h1 h3
theorem ref_Cmp_k (k : Nat) (hk : 10 ≤ k) (h1 : U64 a1) (h3 : U64 b1) : spigotref01_Cmp.f k a0 a1 b0 b1 = some (wcmp (wv a0 a1) (wv b0 b1)) := by
  obtain ⟨m, rfl⟩ : ∃ m, k = m + 1 := ⟨k - 1, by omega⟩
  exact ref_Cmp_ok m h1 h3
end
section
variable {b r p l q t s c T n m : Int}
/-- The sum of two numbers, given by their halves. -/
theorem add_n (n0 : 0 ≤ n) (m0 : 0 ≤ m) (h : n + m < 340282366920938463463374607431768211456) : wide_Add.f (n / 18446744073709551616) (n % 18446744073709551616) (m / 18446744073709551616) (m % 18446744073709551616) = some ((n + m) / 18446744073709551616, (n + m) % 18446744073709551616, 0) := by
  rw [wide_Add_ok (U64_hi n0 (by omega)) U64_lo (U64_hi m0 (by omega)) U64_lo (by rw [wv_of, wv_of]; exact h), wv_of, wv_of]
theorem sub_n (m0 : 0 ≤ m) (h : m ≤ n) (h1 : n < 340282366920938463463374607431768211456) : wide_Sub.f (n / 18446744073709551616) (n % 18446744073709551616) (m / 18446744073709551616) (m % 18446744073709551616) = some ((n - m) / 18446744073709551616, (n - m) % 18446744073709551616, 0) := by
  rw [wide_Sub_ok (U64_hi (by omega) (by omega)) U64_lo (U64_hi m0 (by omega)) U64_lo (by rw [wv_of, wv_of]; exact h), wv_of, wv_of]
theorem cmp_n (k : Nat) (hk : 10 ≤ k) : wide_Cmp.f k (n / 18446744073709551616) (n % 18446744073709551616) (m / 18446744073709551616) (m % 18446744073709551616) = some (wcmp n m) := by
  rw [wide_Cmp_k k hk U64_lo U64_lo, wv_of, wv_of]
theorem rcmp_n (k : Nat) (hk : 10 ≤ k) : spigotref01_Cmp.f k (n / 18446744073709551616) (n % 18446744073709551616) (m / 18446744073709551616) (m % 18446744073709551616) = some (wcmp n m) := by
  rw [ref_Cmp_k k hk U64_lo U64_lo, wv_of, wv_of]
theorem radd_n (n0 : 0 ≤ n) (m0 : 0 ≤ m) (h : n + m < 340282366920938463463374607431768211456) : spigotref01_Add.f (n / 18446744073709551616) (n % 18446744073709551616) (m / 18446744073709551616) (m % 18446744073709551616) = some ((n + m) / 18446744073709551616, (n + m) % 18446744073709551616, 0) := by
  rw [ref_Add_ok (U64_hi n0 (by omega)) U64_lo (U64_hi m0 (by omega)) U64_lo, add_n n0 m0 h]
/-- The time of a tick and the span together. -/
def gE (b r p t : Int) : Int := t * r + b * p
/-- A valid one. -/
def VG (b r p T s : Int) : Prop := VL b r p ∧ U64 s ∧ s * r ≤ T ∧ T ≤ gE b r p s
theorem VL_U64 (hv : VL b r p) : U64 r ∧ U64 p ∧ U64 b := by
  obtain ⟨_, _, _, _, _, _⟩ := hv
  exact ⟨⟨by omega, by omega⟩, ⟨by omega, by omega⟩, ⟨by omega, by omega⟩⟩
theorem tr_bd (hv : VL b r p) (ht : U64 t) : 0 ≤ t * r ∧ t * r ≤ 18446744073709551615000000000 :=
  mul_bd ht.1 (by have := ht.2; omega : t ≤ 18446744073709551615) hv.2.2.1 hv.2.2.2.1
theorem bp_bd (hv : VL b r p) : 0 ≤ b * p ∧ b * p ≤ 1000000000000000000 :=
  mul_bd (by have := hv.1; omega) hv.2.1 (by have := hv.2.2.2.2.1; omega) hv.2.2.2.2.2
theorem cp_bd (hv : VL b r p) (h0 : 0 ≤ c) (hc : I64 c) : 0 ≤ c * p ∧ c * p ≤ 9223372036854775807000000000 :=
  mul_bd h0 (by have := hc.2; omega : c ≤ 9223372036854775807) (by have := hv.2.2.2.2.1; omega) hv.2.2.2.2.2
theorem gE_bd (hv : VL b r p) (ht : U64 t) : 0 ≤ gE b r p t ∧ t * r ≤ gE b r p t ∧ gE b r p t ≤ 18446744074709551615000000000 := by
  have := tr_bd hv ht
  have := bp_bd hv
  unfold gE
  omega
theorem at_ok (hv : VL b r p) (ht : U64 t) : gcra_at.f b r p t = some (t * r / 18446744073709551616, t * r % 18446744073709551616) := by
  unfold gcra_at.f
  rw [wrap_id (VL_U64 hv).1, wide_Mul_ok ht (VL_U64 hv).1]
  rfl
theorem tokens_ok (hv : VL b r p) (h0 : 0 ≤ c) (hc : I64 c) : gcra_tokens.f b r p c = some (c * p / 18446744073709551616, c * p % 18446744073709551616) := by
  have uc : U64 c := ⟨h0, by have := hc.2; omega⟩
  unfold gcra_tokens.f
  rw [wrap_id uc, wrap_id (VL_U64 hv).2.1, wide_Mul_ok uc (VL_U64 hv).2.1]
  rfl
theorem VL_Ib (hv : VL b r p) : 0 ≤ b ∧ I64 b := by
  obtain ⟨_, _, _⟩ := hv
  exact ⟨by omega, by omega, by omega⟩
theorem end_ok (hv : VL b r p) (ht : U64 t) : gcra_end.f b r p t = some (gE b r p t / 18446744073709551616, gE b r p t % 18446744073709551616, 0) := by
  have := tr_bd hv ht
  have := bp_bd hv
  unfold gcra_end.f
  rw [at_ok hv ht, tokens_ok hv (VL_Ib hv).1 (VL_Ib hv).2]
  simp only [Option.bind_some]
  rw [add_n (by omega) (by omega) (by omega)]
  rfl
theorem Time_ok (hv : VL b r p) (ht : U64 t) : spigotref37_Time.f b r p t = some (t * r / 18446744073709551616, t * r % 18446744073709551616) := by
  unfold spigotref37_Time.f
  rw [wrap_id (VL_U64 hv).1, ref_Mul_ok ht (VL_U64 hv).1]
  rfl
theorem rtokens_ok (hv : VL b r p) (h0 : 0 ≤ c) (hc : I64 c) : spigotref37_tokens.f b r p c = some (c * p / 18446744073709551616, c * p % 18446744073709551616) := by
  have uc : U64 c := ⟨h0, by have := hc.2; omega⟩
  unfold spigotref37_tokens.f
  rw [wrap_id uc, wrap_id (VL_U64 hv).2.1, ref_Mul_ok uc (VL_U64 hv).2.1]
  rfl
theorem rsum_n (n0 : 0 ≤ n) (m0 : 0 ≤ m) (h : n + m < 340282366920938463463374607431768211456) : spigotref37_sum.f (n / 18446744073709551616) (n % 18446744073709551616) (m / 18446744073709551616) (m % 18446744073709551616) = some ((n + m) / 18446744073709551616, (n + m) % 18446744073709551616) := by
  unfold spigotref37_sum.f
  rw [radd_n n0 m0 h]
  rfl
theorem rend_ok (hv : VL b r p) (ht : U64 t) : spigotref37_end.f b r p t = some (gE b r p t / 18446744073709551616, gE b r p t % 18446744073709551616) := by
  have := tr_bd hv ht
  have := bp_bd hv
  unfold spigotref37_end.f
  rw [Time_ok hv ht, rtokens_ok hv (VL_Ib hv).1 (VL_Ib hv).2]
  simp only [Option.bind_some]
  rw [rsum_n (by omega) (by omega) (by omega)]
  rfl
theorem VG_bd (hv : VG b r p T s) : 0 ≤ T ∧ T ≤ 18446744074709551615000000000 := by
  obtain ⟨hl, hs, h1, h2⟩ := hv
  have := tr_bd hl hs
  have := gE_bd hl hs
  omega
theorem gCheck_ok (k : Nat) (hk : 10 ≤ k) (hv : VG b r p T s) : gcra_Check.f k b r p (T / 18446744073709551616) (T % 18446744073709551616) s = some 0 := by
  obtain ⟨hl, hs, h1, h2⟩ := hv
  unfold gcra_Check.f
  rw [CheckLimit_ok hl]
  simp only [Option.bind_some, ↓reduceIte]
  rw [end_ok hl hs]
  simp only [Option.bind_some, ↓reduceIte]
  rw [at_ok hl hs]
  simp only [Option.bind_some]
  rw [cmp_n k hk]
  simp only [Option.bind_some]
  rw [if_neg (fun h => by have := wcmp_neg.1 h; omega), cmp_n k hk]
  simp only [Option.bind_some]
  rw [if_neg (fun h => by have := wcmp_pos.1 h; omega)]
theorem rgCheck_ok (k : Nat) (hk : 10 ≤ k) (hv : VG b r p T s) : spigotref37_Check.f k b r p (T / 18446744073709551616) (T % 18446744073709551616) s = some 0 := by
  obtain ⟨hl, hs, h1, h2⟩ := hv
  unfold spigotref37_Check.f
  rw [ref_CheckLimit_ok hl]
  simp only [Option.bind_some, ↓reduceIte]
  rw [Time_ok hl hs]
  simp only [Option.bind_some]
  rw [rcmp_n k hk]
  simp only [Option.bind_some]
  rw [if_neg (fun h => by have := wcmp_neg.1 h; omega), rend_ok hl hs]
  simp only [Option.bind_some]
  rw [rcmp_n k hk]
  simp only [Option.bind_some]
  rw [if_neg (fun h => by have := wcmp_pos.1 h; omega)]
theorem rgCheck_bad (k : Nat) (hk : 10 ≤ k) (hs : U64 s) (hv : ¬ VG b r p T s) : spigotref37_Check.f k b r p (T / 18446744073709551616) (T % 18446744073709551616) s = some 8 := by
  unfold spigotref37_Check.f
  by_cases hl : VL b r p
  · rw [ref_CheckLimit_ok hl]
    simp only [Option.bind_some, ↓reduceIte]
    rw [Time_ok hl hs]
    simp only [Option.bind_some]
    rw [rcmp_n k hk]
    simp only [Option.bind_some]
    by_cases c1 : T < s * r
    · rw [if_pos (wcmp_neg.2 c1)]
    · rw [if_neg (fun h => c1 (wcmp_neg.1 h)), rend_ok hl hs]
      simp only [Option.bind_some]
      rw [rcmp_n k hk]
      simp only [Option.bind_some]
      rw [if_pos (wcmp_pos.2 (Int.lt_of_not_ge fun h => hv ⟨hl, hs, by omega, h⟩))]
  · rw [ref_CheckLimit_bad hl]
    simp
/-- What the bucket holds, in parts. -/
def gA (b r p T s : Int) : Int := gE b r p s - T
theorem gA_bd (hv : VG b r p T s) : 0 ≤ gA b r p T s ∧ gA b r p T s ≤ b * p := by
  obtain ⟨hl, hs, h1, h2⟩ := hv
  unfold gA gE at *
  omega
theorem gA_bkt (hv : VG b r p T s) : VB b r p (gA b r p T s / p) (gA b r p T s % p) s ∧ gA b r p T s / p ≤ 1000000000 ∧ gA b r p T s % p < 1000000000 := by
  obtain ⟨g0, g1⟩ := gA_bd hv
  obtain ⟨hl, hs, h1, h2⟩ := hv
  have hl0 := hl
  obtain ⟨b0, b1, r0, r1, p0, p1⟩ := hl
  obtain ⟨e1, e2, e3⟩ := div_rest (n := gA b r p T s) (by omega : 0 < p)
  have d0 := div_nonneg g0 (by omega : 0 < p)
  have d1 : gA b r p T s / p ≤ b := by
    have := div_mono (by omega : 0 < p) g1
    rwa [Int.mul_ediv_cancel _ (by omega : p ≠ 0)] at this
  refine ⟨⟨hl0, d0, d1, e2, e3, fun h => ?_, hs⟩, by omega, by omega⟩
  rw [h] at e1
  omega
theorem holds_ok (k : Nat) (hk : 20 ≤ k) (hv : VG b r p T s) : gcra_holds.f k b r p (T / 18446744073709551616) (T % 18446744073709551616) s = some (gA b r p T s / p, gA b r p T s % p, 0) := by
  obtain ⟨_, g2, g3⟩ := gA_bkt hv
  obtain ⟨hb, _⟩ := gA_bkt hv
  obtain ⟨g0, g1⟩ := gA_bd hv
  obtain ⟨_, l0, l1, q0, q1, _, _⟩ := hb
  have t0 := VG_bd hv
  obtain ⟨hl, hs, h1, h2⟩ := hv
  have e0 := gE_bd hl hs
  have up := (VL_U64 hl).2.1
  have hp : 0 < p := by have := hl.2.2.2.2.1; omega
  unfold gcra_holds.f
  rw [end_ok hl hs]
  simp only [Option.bind_some, ↓reduceIte]
  rw [sub_n t0.1 h2 (by omega)]
  simp only [Option.bind_some, ↓reduceIte]
  have ea : gE b r p s - T = gA b r p T s := rfl
  rw [ea, wrap_id up, wide_Div_ok k hk (U64_hi g0 (by unfold gA; omega)) U64_lo hp up.2, wv_of]
  simp only [Option.bind_some]
  rw [show gA b r p T s / p % 18446744073709551616 = gA b r p T s / p by omega, wrap64_id (by omega) (by omega), wrap64_id (by omega) (by omega)]
theorem mx_eq : mx s t = if s < t then t else s := by unfold mx; split <;> (try split) <;> omega
theorem mx_U64 (hs : U64 s) (ht : U64 t) : U64 (mx s t) := by rw [mx_eq]; split <;> assumption
/-- The theoretical arrival time at a tick. -/
def gT (r T s t : Int) : Int := if T < mx s t * r then mx s t * r else T
theorem gT_ge : T ≤ gT r T s t ∧ mx s t * r ≤ gT r T s t := by unfold gT; split <;> omega
theorem mx_mono (hr : 0 ≤ r) : s * r ≤ mx s t * r := by
  refine Int.mul_le_mul_of_nonneg_right ?_ hr
  rw [mx_eq]
  split <;> omega
theorem moved_valid (hv : VG b r p T s) (ht : U64 t) : VG b r p (gT r T s t) (mx s t) := by
  obtain ⟨hl, hs, h1, h2⟩ := hv
  have h3 := mx_mono (s := s) (t := t) hl.2.2.1
  have h4 := bp_bd hl
  refine ⟨hl, mx_U64 hs ht, gT_ge.2, ?_⟩
  unfold gT gE at *
  split <;> omega
theorem moved_ok (k : Nat) (hk : 10 ≤ k) (hv : VG b r p T s) (ht : U64 t) : gcra_moved.f k b r p (T / 18446744073709551616) (T % 18446744073709551616) s t = some (b, r, p, gT r T s t / 18446744073709551616, gT r T s t % 18446744073709551616, mx s t) := by
  obtain ⟨hl, hs, h1, h2⟩ := hv
  unfold gcra_moved.f
  rw [at_ok hl (mx_U64 hs ht)]
  simp only [Option.bind_some]
  rw [cmp_n k hk]
  simp only [Option.bind_some]
  unfold gT
  by_cases c1 : T < mx s t * r
  · rw [if_pos (wcmp_neg.2 c1), if_pos c1]
  · rw [if_neg (fun h => c1 (wcmp_neg.1 h)), if_neg c1]
/-- Whether a cost is admitted at the tick At. -/
def gF (b r p T s c : Int) : Prop := T + c * p ≤ gE b r p s
instance : Decidable (gF b r p T s c) := by unfold gF; infer_instance
theorem gAsk_ok (k : Nat) (hk : 20 ≤ k) (hv : VG b r p T s) (ht : U64 t) (h0 : 0 ≤ c) (hc : I64 c) : gcra_Ask.f k b r p (T / 18446744073709551616) (T % 18446744073709551616) s t c =
    if gF b r p (gT r T s t) (mx s t) c then some (b, r, p, (gT r T s t + c * p) / 18446744073709551616, (gT r T s t + c * p) % 18446744073709551616, mx s t, true, 0)
    else some (b, r, p, gT r T s t / 18446744073709551616, gT r T s t % 18446744073709551616, mx s t, false, 0) := by
  have hv1 := moved_valid hv ht
  have t1 := VG_bd hv1
  obtain ⟨hl, hs1, _, _⟩ := hv1
  have c1 := cp_bd hl h0 hc
  unfold gcra_Ask.f
  rw [gCheck_ok k (by omega) hv]
  simp only [Option.bind_some, ↓reduceIte]
  rw [if_neg (by omega), moved_ok k (by omega) hv ht]
  simp only [Option.bind_some]
  rw [tokens_ok hl h0 hc]
  simp only [Option.bind_some]
  rw [add_n t1.1 c1.1 (by omega)]
  simp only [Option.bind_some]
  rw [end_ok hl hs1]
  simp only [Option.bind_some, ↓reduceIte]
  rw [cmp_n k (by omega)]
  simp only [Option.bind_some]
  by_cases g : gF b r p (gT r T s t) (mx s t) c
  · have g' : gT r T s t + c * p ≤ gE b r p (mx s t) := g
    rw [if_pos g, if_neg (fun h => by have := wcmp_pos.1 h; omega)]
  · have g' : ¬ gT r T s t + c * p ≤ gE b r p (mx s t) := g
    rw [if_neg g, if_pos (wcmp_pos.2 (by omega))]
theorem gLevel_ok (k : Nat) (hk : 20 ≤ k) (hv : VG b r p T s) (ht : U64 t) : gcra_Level.f k b r p (T / 18446744073709551616) (T % 18446744073709551616) s t = some (gA b r p (gT r T s t) (mx s t) / p, 0) := by
  unfold gcra_Level.f
  rw [gCheck_ok k (by omega) hv]
  simp only [Option.bind_some, ↓reduceIte]
  rw [moved_ok k (by omega) hv ht]
  simp only [Option.bind_some]
  rw [holds_ok k hk (moved_valid hv ht)]
  rfl
/-- The ticks until a cost is admitted. -/
def gN (b r p T s c : Int) : Int := cdiv (T + c * p - gE b r p s) r
def gW (b r p T s c : Int) : Int := if gF b r p T s c then 0 else if c > b ∨ r = 0 then 18446744073709551615 else if gN b r p T s c > 18446744073709551615 - s then 18446744073709551615 else gN b r p T s c
theorem gT_self (hv : VG b r p T s) : gT r T s s = T ∧ mx s s = s := by
  have e : mx s s = s := by rw [mx_eq]; split <;> rfl
  unfold gT
  rw [e, if_neg (by have := hv.2.2.1; omega)]
  exact ⟨rfl, rfl⟩
theorem gN_bd (hv : VG b r p T s) (h0 : 0 ≤ c) (h1 : c ≤ b) (hr : r ≠ 0) (hf : ¬ gF b r p T s c) : 0 < gN b r p T s c ∧ gN b r p T s c ≤ 1000000000000000000 ∧ 0 < T + c * p - gE b r p s ∧ T + c * p - gE b r p s ≤ 1000000000000000000 := by
  obtain ⟨hl, hs, h2, h3⟩ := hv
  have b0 := bp_bd hl
  have c0 := Int.mul_le_mul_of_nonneg_right h1 (by have := hl.2.2.2.2.1; omega : 0 ≤ p)
  have r0 := hl.2.2.1
  have m0 : 0 < T + c * p - gE b r p s := by unfold gF at hf; omega
  obtain ⟨d0, d1, d2, d3⟩ := cdiv_bd (d := r) (by omega : 0 < r) m0
  have e : cdiv (T + c * p - gE b r p s) r = gN b r p T s c := rfl
  rw [e] at d0 d1
  omega
theorem gWait_ok (k : Nat) (hk : 30 ≤ k) (hv : VG b r p T s) (h0 : 0 ≤ c) (hc : I64 c) : gcra_Wait.f k b r p (T / 18446744073709551616) (T % 18446744073709551616) s c = some (gW b r p T s c, 0) := by
  obtain ⟨e1, e2⟩ := gT_self hv
  have t0 := VG_bd hv
  have hl := hv.1
  have hs := hv.2.1
  have c0 := cp_bd hl h0 hc
  unfold gcra_Wait.f
  rw [gAsk_ok k (by omega) hv hs h0 hc, e1, e2]
  obtain ⟨k, rfl⟩ : ∃ m, k = m + 2 := ⟨k - 2, by omega⟩
  unfold gW
  by_cases g : gF b r p T s c
  · rw [if_pos g, if_pos g]
    simp only [Option.bind_some, ↓reduceIte, gcra_Wait.j0]
  · rw [if_neg g, if_neg g]
    simp only [Option.bind_some, ↓reduceIte, gcra_Wait.j0]
    rw [if_neg (by decide)]
    have key : (if c > b then gcra_Wait.j1 (k + 1) c true b r p (T / 18446744073709551616) (T % 18446744073709551616) s else gcra_Wait.j1 (k + 1) c (r == 0) b r p (T / 18446744073709551616) (T % 18446744073709551616) s) = gcra_Wait.j1 (k + 1) c (decide (c > b ∨ r = 0)) b r p (T / 18446744073709551616) (T % 18446744073709551616) s := by
      by_cases c1 : c > b
      · rw [if_pos c1, decide_eq_true (Or.inl c1)]
      · rw [if_neg c1]
        congr 1
        by_cases c2 : r = 0
        · rw [decide_eq_true (Or.inr c2), c2]
          rfl
        · rw [decide_eq_false (by omega)]
          simpa using c2
    rw [key]
    simp only [gcra_Wait.j1]
    by_cases c1 : c > b ∨ r = 0
    · rw [if_pos (decide_eq_true c1), if_pos c1]
    · obtain ⟨n0, n1, m0, m1⟩ := gN_bd hv h0 (by omega) (by omega) g
      have e0 := gE_bd hl hs
      have ur := (VL_U64 hl).1
      have r0 := ur.1
      have s0 := hs.1
      have s1 := hs.2
      have um : U64 (18446744073709551615 - s) := ⟨by omega, by omega⟩
      rw [if_neg (by simpa using c1), if_neg c1, tokens_ok hl h0 hc]
      simp only [Option.bind_some]
      rw [add_n t0.1 c0.1 (by omega)]
      simp only [Option.bind_some, ↓reduceIte]
      rw [end_ok hl hs]
      simp only [Option.bind_some, ↓reduceIte]
      rw [sub_n e0.1 (by omega) (by omega)]
      simp only [Option.bind_some, ↓reduceIte]
      rw [wrap_id ur, wide_Up_ok k (by omega) (U64_hi (by omega) (by omega)) U64_lo (by omega) ur.2, wv_of]
      have ea : cdiv (T + c * p - gE b r p s) r = gN b r p T s c := rfl
      simp only [Option.bind_some, ↓reduceIte, ea]
      rw [wrap_id um, wide_Of_ok]
      simp only [Option.bind_some]
      rw [wide_Cmp_k k (by omega) U64_lo um, wv_of, wv_zero]
      simp only [Option.bind_some]
      by_cases c3 : gN b r p T s c > 18446744073709551615 - s
      · rw [if_pos (wcmp_pos.2 (by omega)), if_pos c3]
      · rw [if_neg (fun h => by have := wcmp_pos.1 h; omega), if_neg c3, show gN b r p T s c % 18446744073709551616 = gN b r p T s c by omega]
end
section
variable {b r p l q t s c T h : Int}
theorem halves {h l : Int} (h0 : U64 h) (h1 : U64 l) : ∃ T, 0 ≤ T ∧ h = T / 18446744073709551616 ∧ l = T % 18446744073709551616 :=
  ⟨wv h l, (wv_bd h0 h1).1, (wv_hi h1).symm, (wv_lo h1).symm⟩
theorem gA_parts (hv : VG b r p T s) : gA b r p T s / p * p + gA b r p T s % p = gA b r p T s :=
  (div_rest (by have := hv.1.2.2.2.2.1; omega)).1
theorem gF_iff (hv : VG b r p T s) : gF b r p T s c ↔ c ≤ gA b r p T s / p := by
  obtain ⟨⟨_, l0, l1, q0, q1, _, _⟩, _⟩ := gA_bkt hv
  rw [holds_iff (by have := hv.1.2.2.2.2.1; omega) q0 q1, gA_parts hv]
  unfold gF gA
  omega
theorem gA_fill (hv : VG b r p T s) (ht : U64 t) : gA b r p (gT r T s t) (mx s t) / p = fL b r p (gA b r p T s / p) (gA b r p T s % p) s t ∧
    gA b r p (gT r T s t) (mx s t) % p = fP b r p (gA b r p T s / p) (gA b r p T s % p) s t ∧ mx s t = fT s t := by
  have hb := (gA_bkt hv).1
  have hp := gA_parts hv
  by_cases c0 : t ≤ s
  · have e : mx s t = s := by rw [mx_eq, if_neg (by omega)]
    have e1 : gT r T s t = T := by unfold gT; rw [e, if_neg (by have := hv.2.2.1; omega)]
    rw [e, e1]
    unfold fL fP fT
    rw [if_pos c0, if_pos c0, if_pos c0]
    exact ⟨rfl, rfl, rfl⟩
  · have e : mx s t = t := by rw [mx_eq, if_pos (by omega)]
    obtain ⟨a1, a2⟩ := fill_amt hb (by omega : s ≤ t)
    obtain ⟨_, f0, f1, f2, f3, f4, _⟩ := fill_valid hb ht
    have p0 : 0 < p := by have := hv.1.2.2.2.2.1; omega
    rw [hp] at a1 a2
    have ed : (t - s) * r = t * r - s * r := Int.sub_mul ..
    rw [ed] at a1 a2
    have eT : mx s t = fT s t := by rw [e]; unfold fT; rw [if_neg c0]
    refine ⟨?_, ?_, eT⟩ <;> rw [e]
    all_goals
      generalize hL : fL b r p (gA b r p T s / p) (gA b r p T s % p) s t = L at *
      generalize hP : fP b r p (gA b r p T s / p) (gA b r p T s % p) s t = P at *
      have full : gA b r p T s + (t * r - s * r) ≥ b * p → gA b r p (gT r T s t) t = b * p := by
        intro g
        unfold gA gE gT at *
        rw [e] at *
        split <;> omega
      have notf : gA b r p T s + (t * r - s * r) < b * p → gA b r p (gT r T s t) t = L * p + P := by
        intro g
        rw [a1 g]
        unfold gA gE gT at *
        rw [e] at *
        split <;> omega
      rcases Int.lt_or_le (gA b r p T s + (t * r - s * r)) (b * p) with g | g
      · rw [notf g]
        have hu := div_uniq (n := L * p + P) (y := p) (q := L) (by omega) (by omega)
        omega
      · rw [full g]
        have hag := a2 g
        have hu := div_uniq (n := b * p) (y := p) (q := b) (by omega) (by omega)
        omega
theorem gW_eq (hv : VG b r p T s) : gW b r p T s c = waitOf b r p (gA b r p T s / p) (gA b r p T s % p) s c := by
  have hp := gA_parts hv
  have hg := gF_iff (c := c) hv
  have en : gN b r p T s c = wN r p (gA b r p T s / p) (gA b r p T s % p) c := by
    unfold gN wN
    rw [Int.sub_mul]
    congr 1
    unfold gA at *
    omega
  unfold gW waitOf
  rw [en]
  by_cases g : gF b r p T s c
  · rw [if_pos g, if_pos (hg.1 g)]
  · rw [if_neg g, if_neg (fun h => g (hg.2 h))]
end
set_option maxRecDepth 100000 in
theorem alive37_ : spigotlaw37_alive.f 100 = some true := by kernel_rfl
theorem alive37 (k : Nat) (hk : 100 ≤ k) : spigotlaw37_alive.f k = some true := up_ (fun k => spigotlaw37_alive.mono k) alive37_ k hk
theorem GcraLevel_pure (b r p h l s t c : Int) (_ : I64 b) (_ : I64 r) (_ : I64 p) (hh : U64 h) (hl : U64 l) (hs : U64 s) (ht : U64 t) (hc : I64 c) : ∃ k, spigotlaw37_GcraLevel.f k b r p h l s t c = some true := by
  refine ⟨401, ?_⟩
  obtain ⟨T, t0, rfl, rfl⟩ := halves hh hl
  unfold spigotlaw37_GcraLevel.f
  rw [alive37 401 (by omega)]
  simp only [Option.bind_some]
  by_cases hv : VG b r p T s
  · rw [rgCheck_ok 401 (by omega) hv]
    simp only [Option.bind_some, ↓reduceIte, spigotlaw37_GcraLevel.j0]
    by_cases c0 : c < 0
    · rw [if_pos c0]
    · have h0 : 0 ≤ c := by omega
      have i0 : I64 0 := ⟨by decide, by decide⟩
      have hv1 := moved_valid hv ht
      obtain ⟨⟨_, l0, l1, _⟩, _⟩ := gA_bkt hv1
      have z1 := (gF_iff (c := 0) hv1).2 l0
      have gc := gF_iff (c := c) hv1
      rw [if_neg c0, if_neg (by decide), gLevel_ok 400 (by omega) hv ht, gAsk_ok 400 (by omega) hv ht (by omega) i0, gAsk_ok 400 (by omega) hv ht h0 hc, if_pos z1]
      simp only [Option.bind_some, ↓reduceIte]
      have ew := gW_eq (c := c) hv
      have hb := (gA_bkt hv).1
      obtain ⟨w0, w1, w2⟩ := wait_spec hb h0
      rw [← ew] at w0 w1 w2
      -- asking at a tick is looking whether the bucket, refilled, holds the cost
      have ask : ∀ u, U64 u → ∃ x, gcra_Ask.f 400 b r p (T / 18446744073709551616) (T % 18446744073709551616) s u c = some x ∧ x.2.2.2.2.2.2.2 = 0 ∧ x.2.2.2.2.2.2.1 = decide (c ≤ fL b r p (gA b r p T s / p) (gA b r p T s % p) s u) := by
        intro u hu
        rw [gAsk_ok 400 (by omega) hv hu h0 hc]
        have g := gF_iff (c := c) (moved_valid hv hu)
        rw [(gA_fill hv hu).1] at g
        by_cases g0 : gF b r p (gT r T s u) (mx s u) c
        · rw [if_pos g0]
          exact ⟨_, rfl, rfl, (decide_eq_true (g.1 g0)).symm⟩
        · rw [if_neg g0]
          exact ⟨_, rfl, rfl, (decide_eq_false (fun h => g0 (g.2 h))).symm⟩
      have first : ∀ {α : Type} (f : Option α), (if gF b r p (gT r T s t) (mx s t) c then some (b, r, p, (gT r T s t + c * p) / 18446744073709551616, (gT r T s t + c * p) % 18446744073709551616, mx s t, true, (0 : Int))
          else some (b, r, p, gT r T s t / 18446744073709551616, gT r T s t % 18446744073709551616, mx s t, false, 0)).bind (fun bt => if gA b r p (gT r T s t) (mx s t) / p < 0 then none else if gA b r p (gT r T s t) (mx s t) / p > b then none else if bt.2.2.2.2.2.2.2 = 0 then if (bt.2.2.2.2.2.2.1 != (decide (c ≤ gA b r p (gT r T s t) (mx s t) / p))) = true then none else f else none) = f := by
        have q1 : ¬ gA b r p (gT r T s t) (mx s t) / p < 0 := by omega
        have q2 : ¬ gA b r p (gT r T s t) (mx s t) / p > b := by omega
        intro α f
        by_cases g0 : gF b r p (gT r T s t) (mx s t) c
        · rw [if_pos g0, decide_eq_true (gc.1 g0), Option.bind_some, if_neg q1, if_neg q2]
          rfl
        · rw [if_neg g0, decide_eq_false (fun h => g0 (gc.2 h)), Option.bind_some, if_neg q1, if_neg q2]
          rfl
      rw [first, gWait_ok 400 (by omega) hv h0 hc]
      simp only [Option.bind_some, ↓reduceIte]
      have s0 := hs.1
      have s1 := hs.2
      have um : U64 18446744073709551615 := ⟨by decide, by decide⟩
      by_cases n0 : gW b r p T s c = 18446744073709551615
      · rw [if_pos n0]
        obtain ⟨x, ex, x0, x1⟩ := ask _ um
        rw [ex]
        simp only [Option.bind_some]
        rw [if_pos x0, x1, decide_eq_false (by have := (w1 n0).2 _ um (by omega); omega)]
        rfl
      · obtain ⟨g1, g2, g3, g4, g5⟩ := w2 n0
        have ut : U64 (s + gW b r p T s c) := ⟨by omega, by omega⟩
        rw [if_neg n0, wrap_id (x := 18446744073709551615 - s) ⟨by omega, by omega⟩, if_neg (by omega), wrap_id ut]
        obtain ⟨x, ex, x0, x1⟩ := ask _ ut
        rw [ex]
        simp only [Option.bind_some]
        rw [if_pos x0, x1, if_pos (decide_eq_true ((g5 _ ut (by omega)).2 (by omega)))]
        by_cases z : gW b r p T s c = 0
        · rw [if_pos z]
        · have ut1 : U64 (s + gW b r p T s c - 1) := ⟨by omega, by omega⟩
          rw [if_neg z, wrap_id ut1]
          obtain ⟨y, ey, y0, y1⟩ := ask _ ut1
          have g6 := g5 _ ut1 (by omega)
          rw [ey]
          simp only [Option.bind_some]
          rw [if_pos y0, y1, decide_eq_false (by omega)]
          rfl
  · rw [rgCheck_bad 401 (by omega) hs hv]
    rfl
end Go.Proofs.Ytnijohomnajngaa.X
