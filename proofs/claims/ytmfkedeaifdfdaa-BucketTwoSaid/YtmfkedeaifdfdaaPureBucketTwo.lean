/- BucketTwo, and what it needs. -/
import Derived.Test.YtmfkedeaifdfdaaX4
import Derived.Test.YtmfkedeaifdfdaaX5
import Derived.Test.YtmfkedeaifdfdaaX6
import Derived.Test.YtmfkedeaifdfdaaX7
import Derived.Test.YtmfkedeaifdfdaaX8
import Derived.Test.YtmfkedeaifdfdaaX9
import Derived.Test.YtmfkedeaifdfdaaX10
import Derived.Test.YtmfkedeaifdfdaaX22
import Derived.Test.YtmfkedeaifdfdaaX27
import Derived.Test.YtmfkedeaifdfdaaX28
import Derived.Test.YtmfkedeaifdfdaaX29
import Derived.Test.YtmfkedeaifdfdaaMath
namespace Go.Proofs.Ytmfkedeaifdfdaa.X
open Go.RowKit Go.Proofs.YtmfkedeaifdfdaaW.PrintWords Go.Proofs.YtmfkedeaifdfdaaW.PrintLast Go.Proofs.YtmfkedeaifdfdaaW.PrintMore
set_option linter.unusedVariables false
set_option linter.unusedSimpArgs false

/-- From the table: how many bits a byte needs. -/
theorem tab_byte (b : Nat) (hb : b < 256) (h0 : 0 < b) : ∃ t : Nat, 1 ≤ t ∧ t ≤ 8 ∧ 2 ^ (t - 1) ≤ b ∧ b < 2 ^ t ∧ bt (⟨#[0, 1, 2, 2, 3, 3, 3, 3, 4, 4, 4, 4, 4, 4, 4, 4, 5, 5, 5, 5, 5, 5, 5, 5, 5, 5, 5, 5, 5, 5, 5, 5, 6, 6, 6, 6, 6, 6, 6, 6, 6, 6, 6, 6, 6, 6, 6, 6, 6, 6, 6, 6, 6, 6, 6, 6, 6, 6, 6, 6, 6, 6, 6, 6, 7, 7, 7, 7, 7, 7, 7, 7, 7, 7, 7, 7, 7, 7, 7, 7, 7, 7, 7, 7, 7, 7, 7, 7, 7, 7, 7, 7, 7, 7, 7, 7, 7, 7, 7, 7, 7, 7, 7, 7, 7, 7, 7, 7, 7, 7, 7, 7, 7, 7, 7, 7, 7, 7, 7, 7, 7, 7, 7, 7, 7, 7, 7, 7, 8, 8, 8, 8, 8, 8, 8, 8, 8, 8, 8, 8, 8, 8, 8, 8, 8, 8, 8, 8, 8, 8, 8, 8, 8, 8, 8, 8, 8, 8, 8, 8, 8, 8, 8, 8, 8, 8, 8, 8, 8, 8, 8, 8, 8, 8, 8, 8, 8, 8, 8, 8, 8, 8, 8, 8, 8, 8, 8, 8, 8, 8, 8, 8, 8, 8, 8, 8, 8, 8, 8, 8, 8, 8, 8, 8, 8, 8, 8, 8, 8, 8, 8, 8, 8, 8, 8, 8, 8, 8, 8, 8, 8, 8, 8, 8, 8, 8, 8, 8, 8, 8, 8, 8, 8, 8, 8, 8, 8, 8, 8, 8, 8, 8, 8, 8, 8, 8, 8, 8, 8, 8, 8, 8, 8, 8, 8, 8]⟩ : ByteArray) (b : Int) = (t : Int) := by
  have h : ∀ b : Fin 256, 0 < b.val → ∃ t : Fin 9, 1 ≤ t.val ∧ 2 ^ (t.val - 1) ≤ b.val ∧ b.val < 2 ^ t.val ∧ bt (⟨#[0, 1, 2, 2, 3, 3, 3, 3, 4, 4, 4, 4, 4, 4, 4, 4, 5, 5, 5, 5, 5, 5, 5, 5, 5, 5, 5, 5, 5, 5, 5, 5, 6, 6, 6, 6, 6, 6, 6, 6, 6, 6, 6, 6, 6, 6, 6, 6, 6, 6, 6, 6, 6, 6, 6, 6, 6, 6, 6, 6, 6, 6, 6, 6, 7, 7, 7, 7, 7, 7, 7, 7, 7, 7, 7, 7, 7, 7, 7, 7, 7, 7, 7, 7, 7, 7, 7, 7, 7, 7, 7, 7, 7, 7, 7, 7, 7, 7, 7, 7, 7, 7, 7, 7, 7, 7, 7, 7, 7, 7, 7, 7, 7, 7, 7, 7, 7, 7, 7, 7, 7, 7, 7, 7, 7, 7, 7, 7, 8, 8, 8, 8, 8, 8, 8, 8, 8, 8, 8, 8, 8, 8, 8, 8, 8, 8, 8, 8, 8, 8, 8, 8, 8, 8, 8, 8, 8, 8, 8, 8, 8, 8, 8, 8, 8, 8, 8, 8, 8, 8, 8, 8, 8, 8, 8, 8, 8, 8, 8, 8, 8, 8, 8, 8, 8, 8, 8, 8, 8, 8, 8, 8, 8, 8, 8, 8, 8, 8, 8, 8, 8, 8, 8, 8, 8, 8, 8, 8, 8, 8, 8, 8, 8, 8, 8, 8, 8, 8, 8, 8, 8, 8, 8, 8, 8, 8, 8, 8, 8, 8, 8, 8, 8, 8, 8, 8, 8, 8, 8, 8, 8, 8, 8, 8, 8, 8, 8, 8, 8, 8, 8, 8, 8, 8, 8, 8]⟩ : ByteArray) (b.val : Int) = (t.val : Int) := by decide +kernel
  obtain ⟨t, h1, h2, h3, h4⟩ := h ⟨b, hb⟩ h0
  exact ⟨t.val, h1, by omega, h2, h3, h4⟩
/-- How many bits a number needs, behind a shift by m. -/
theorem bits_shift {x b : Int} {t m : Nat} (hb : b = x / 2 ^ m) (h1 : 1 ≤ t) (h2 : (2 : Int) ^ (t - 1) ≤ b) (h3 : b < 2 ^ t) : (2 : Int) ^ (t + m - 1) ≤ x ∧ x < 2 ^ (t + m) := by
  subst hb
  obtain ⟨d1, d2⟩ := div_bd (n := x) (two_pow_pos m)
  have e1 := two_pow_split (t - 1) m (t + m - 1) (by omega)
  have e2 := two_pow_split t m (t + m) rfl
  have k1 := Int.mul_le_mul_of_nonneg_right h2 (Int.le_of_lt (two_pow_pos m))
  have k2 : x / 2 ^ m * 2 ^ m + 2 ^ m ≤ 2 ^ t * 2 ^ m := by
    have : (x / 2 ^ m + 1) * 2 ^ m ≤ 2 ^ t * 2 ^ m := Int.mul_le_mul_of_nonneg_right (by omega) (Int.le_of_lt (two_pow_pos m))
    rw [Int.add_mul, Int.one_mul] at this
    exact this
  omega
set_option maxRecDepth 100000 in
theorem Len64_j0 (k : Nat) (x o : Int) (m : Nat) (ho : o = m) (hm : m ≤ 32) (h0 : 0 < x) (h1 : x < 4294967296) :
    ∃ t : Nat, 1 ≤ t ∧ t ≤ 32 ∧ bits_Len64.j0 (k + 1) x o = some ((t + m : Nat) : Int) ∧ (2 : Int) ^ (t - 1) ≤ x ∧ x < 2 ^ t := by
  rw [bits_Len64.j0]
  have key : ∀ (b : Int) (s : Nat), b = x / 2 ^ s → 0 < b → b < 256 → s ≤ 24 → ∃ t : Nat, 1 ≤ t ∧ t ≤ 8 ∧ bt (⟨#[0, 1, 2, 2, 3, 3, 3, 3, 4, 4, 4, 4, 4, 4, 4, 4, 5, 5, 5, 5, 5, 5, 5, 5, 5, 5, 5, 5, 5, 5, 5, 5, 6, 6, 6, 6, 6, 6, 6, 6, 6, 6, 6, 6, 6, 6, 6, 6, 6, 6, 6, 6, 6, 6, 6, 6, 6, 6, 6, 6, 6, 6, 6, 6, 7, 7, 7, 7, 7, 7, 7, 7, 7, 7, 7, 7, 7, 7, 7, 7, 7, 7, 7, 7, 7, 7, 7, 7, 7, 7, 7, 7, 7, 7, 7, 7, 7, 7, 7, 7, 7, 7, 7, 7, 7, 7, 7, 7, 7, 7, 7, 7, 7, 7, 7, 7, 7, 7, 7, 7, 7, 7, 7, 7, 7, 7, 7, 7, 8, 8, 8, 8, 8, 8, 8, 8, 8, 8, 8, 8, 8, 8, 8, 8, 8, 8, 8, 8, 8, 8, 8, 8, 8, 8, 8, 8, 8, 8, 8, 8, 8, 8, 8, 8, 8, 8, 8, 8, 8, 8, 8, 8, 8, 8, 8, 8, 8, 8, 8, 8, 8, 8, 8, 8, 8, 8, 8, 8, 8, 8, 8, 8, 8, 8, 8, 8, 8, 8, 8, 8, 8, 8, 8, 8, 8, 8, 8, 8, 8, 8, 8, 8, 8, 8, 8, 8, 8, 8, 8, 8, 8, 8, 8, 8, 8, 8, 8, 8, 8, 8, 8, 8, 8, 8, 8, 8, 8, 8, 8, 8, 8, 8, 8, 8, 8, 8, 8, 8, 8, 8, 8, 8, 8, 8, 8, 8]⟩ : ByteArray) b = (t : Int) ∧ (2 : Int) ^ (t + s - 1) ≤ x ∧ x < 2 ^ (t + s) := by
    intro b s hb b0 b1 hs
    obtain ⟨c, rfl⟩ := Int.eq_ofNat_of_zero_le (Int.le_of_lt b0)
    obtain ⟨t, t1, t2, t3, t4, t5⟩ := tab_byte c (by omega) (by omega)
    obtain ⟨e1, e2⟩ := bits_shift (x := x) (b := c) (t := t) (m := s) hb t1 (by exact_mod_cast t3) (by exact_mod_cast t4)
    exact ⟨t, t1, t2, t5, e1, e2⟩
  by_cases c1 : x ≥ 65536
  · rw [if_pos c1]
    by_cases c2 : x / 65536 ≥ 256
    · rw [if_pos c2, if_pos (by omega), if_pos (by omega)]
      obtain ⟨t, t1, t2, t3, t4, t5⟩ := key (x / 65536 / 256 % 256) 24 (by rw [Int.emod_eq_of_lt (by omega) (by omega), show ((2 : Int) ^ 24) = 16777216 from rfl]; omega) (by omega) (by omega) (by omega)
      refine ⟨t + 24, by omega, by omega, ?_, t4, t5⟩
      rw [t3, ho, wrap64_id (x := (m : Int) + 16) (by omega) (by omega), wrap64_id (x := (m : Int) + 16 + 8) (by omega) (by omega), wrap64_id (x := (t : Int)) (by omega) (by omega), wrap64_id (by omega) (by omega)]
      congr 1
      omega
    · rw [if_neg c2, if_pos (by omega), if_pos (by omega)]
      obtain ⟨t, t1, t2, t3, t4, t5⟩ := key (x / 65536 % 256) 16 (by rw [Int.emod_eq_of_lt (by omega) (by omega), show ((2 : Int) ^ 16) = 65536 from rfl]) (by omega) (by omega) (by omega)
      refine ⟨t + 16, by omega, by omega, ?_, t4, t5⟩
      rw [t3, ho, wrap64_id (x := (m : Int) + 16) (by omega) (by omega), wrap64_id (x := (t : Int)) (by omega) (by omega), wrap64_id (by omega) (by omega)]
      congr 1
      omega
  · rw [if_neg c1]
    by_cases c2 : x ≥ 256
    · rw [if_pos c2, if_pos (by omega), if_pos (by omega)]
      obtain ⟨t, t1, t2, t3, t4, t5⟩ := key (x / 256 % 256) 8 (by rw [Int.emod_eq_of_lt (by omega) (by omega), show ((2 : Int) ^ 8) = 256 from rfl]) (by omega) (by omega) (by omega)
      refine ⟨t + 8, by omega, by omega, ?_, t4, t5⟩
      rw [t3, ho, wrap64_id (x := (m : Int) + 8) (by omega) (by omega), wrap64_id (x := (t : Int)) (by omega) (by omega), wrap64_id (by omega) (by omega)]
      congr 1
      omega
    · rw [if_neg c2, if_pos (by omega), if_pos (by omega)]
      obtain ⟨t, t1, t2, t3, t4, t5⟩ := key (x % 256) 0 (by rw [Int.emod_eq_of_lt (by omega) (by omega)]; simp) (by omega) (by omega) (by omega)
      refine ⟨t, by omega, by omega, ?_, t4, t5⟩
      rw [t3, ho, wrap64_id (x := (t : Int)) (by omega) (by omega), wrap64_id (by omega) (by omega)]
      congr 1
      omega
theorem Len64_ok (k : Nat) (x : Int) (h0 : 0 < x) (h1 : x < 18446744073709551616) :
    ∃ t : Nat, 1 ≤ t ∧ t ≤ 64 ∧ bits_Len64.f (k + 1) x = some (t : Int) ∧ (2 : Int) ^ (t - 1) ≤ x ∧ x < 2 ^ t := by
  unfold bits_Len64.f
  by_cases c : x ≥ 4294967296
  · rw [if_pos c]
    obtain ⟨t, t1, t2, t3, t4, t5⟩ := Len64_j0 k (x / 4294967296) 32 32 rfl (by omega) (by omega) (by omega)
    obtain ⟨e1, e2⟩ := bits_shift (x := x) (b := x / 4294967296) (t := t) (m := 32) (by rw [show ((2 : Int) ^ 32) = 4294967296 from rfl]) t1 t4 t5
    exact ⟨t + 32, by omega, by omega, t3, e1, e2⟩
  · rw [if_neg c]
    obtain ⟨t, t1, t2, t3, t4, t5⟩ := Len64_j0 k x 0 0 rfl (by omega) h0 (by omega)
    exact ⟨t, by omega, by omega, t3, t4, t5⟩
theorem LeadingZeros64_ok (k : Nat) (x : Int) (h0 : 0 < x) (h1 : x < 18446744073709551616) :
    ∃ s : Nat, s ≤ 63 ∧ bits_LeadingZeros64.f (k + 1) x = some (s : Int) ∧ (9223372036854775808 : Int) ≤ x * 2 ^ s ∧ x * 2 ^ s < 18446744073709551616 := by
  obtain ⟨t, t1, t2, t3, t4, t5⟩ := Len64_ok k x h0 h1
  refine ⟨64 - t, by omega, ?_, ?_, ?_⟩
  · unfold bits_LeadingZeros64.f
    rw [t3]
    simp only [Option.bind_some]
    rw [wrap64_id (by omega) (by omega)]
    congr 1
    omega
  · have e := two_pow_split (t - 1) (64 - t) 63 (by omega)
    have k1 := Int.mul_le_mul_of_nonneg_right t4 (Int.le_of_lt (two_pow_pos (64 - t)))
    rw [e] at k1
    exact k1
  · have e := two_pow_split t (64 - t) 64 (by omega)
    have k1 := Int.mul_lt_mul_of_pos_right t5 (two_pow_pos (64 - t))
    rw [e] at k1
    exact k1

/-! #### the loops of Div64: a guessed digit is lowered until it is the digit -/
section
variable {y yn1 yn0 u v q r : Int}
theorem kn_eq (hy : y = yn1 * 4294967296 + yn0) : q * y = q * yn1 * 4294967296 + q * yn0 := by rw [hy, Int.mul_add, Int.mul_assoc]
theorem kn_dec (hy : y = yn1 * 4294967296 + yn0) (hu0 : 0 ≤ u) (hu : u < y) (hv0 : 0 ≤ v) (hv : v < 4294967296) (hq : u = q * yn1 + r) (hq0 : 0 ≤ q) (hc : q ≥ 4294967296 ∨ q * yn0 > 4294967296 * r + v) : u * 4294967296 + v < q * y ∧ 1 ≤ q := by
  have e := kn_eq (q := q) hy
  have h : u * 4294967296 + v < q * y := by
    rcases hc with h | h
    · have := Int.mul_le_mul_of_nonneg_right h (by omega : 0 ≤ y)
      omega
    · omega
  refine ⟨h, ?_⟩
  rcases Int.lt_or_le 0 q with h' | h'
  · omega
  · have : q = 0 := by omega
    subst this
    rw [Int.zero_mul] at h
    omega
theorem kn_low (hy : y = yn1 * 4294967296 + yn0) (hu : u < y) (hu0 : 0 ≤ u) (hv : v < 4294967296) (hq : q * y ≤ u * 4294967296 + v) : q < 4294967296 := by
  rcases Int.lt_or_le q 4294967296 with h | h
  · exact h
  · have := Int.mul_le_mul_of_nonneg_right h (by omega : 0 ≤ y)
    omega
theorem kn_brk (hy : y = yn1 * 4294967296 + yn0) (h2 : 0 ≤ yn0) (h2' : yn0 < 4294967296) (hv0 : 0 ≤ v) (hq : u = q * yn1 + r) (hq0 : 0 ≤ q) (hq1 : q ≤ 4294967296) (hr : 4294967296 ≤ r) : q * y ≤ u * 4294967296 + v := by
  have e := kn_eq (q := q) hy
  have h := (mul_bd hq0 hq1 h2 (by omega : yn0 ≤ 4294967295)).2
  omega
end

theorem Div64_l0 (y s yn1 yn0 u v un0 : Int) (hy : y = yn1 * 4294967296 + yn0) (h1 : 2147483648 ≤ yn1) (h1' : yn1 < 4294967296) (h2 : 0 ≤ yn0) (h2' : yn0 < 4294967296) (hu0 : 0 ≤ u) (hu : u < y) (hv0 : 0 ≤ v) (hv : v < 4294967296) :
    ∀ (d k : Nat) (q r : Int), 2 * d + 2 ≤ k → 4294967296 ≤ r + d * 2147483648 → 0 ≤ r → r < 4294967296 → u = q * yn1 + r → 0 ≤ q → q ≤ 4294967297 → u * 4294967296 + v < q * y + y →
    ∃ k' q', k ≤ k' + (2 * d + 2) ∧ bits_Div64.l0 k y s yn1 yn0 u v un0 q r = bits_Div64.j2 k' y s yn1 yn0 u v un0 q' ∧ 0 ≤ q' ∧ q' < 4294967296 ∧ q' * y ≤ u * 4294967296 + v ∧ u * 4294967296 + v < q' * y + y := by
  intro d
  induction d with
  | zero => intro k q r _ h; intros; omega
  | succ d ih =>
    intro k q r hk hd hr0 hr hq hq0 hq1 hlt
    obtain ⟨k, rfl⟩ : ∃ m, k = m + 2 := ⟨k - 2, by omega⟩
    have dec : q ≥ 4294967296 ∨ q * yn0 > 4294967296 * r + v → ∃ k' q', k + 2 ≤ k' + (2 * (d + 1) + 2) ∧ bits_Div64.j1 (k + 1) y s yn1 yn0 u v un0 q r true = bits_Div64.j2 k' y s yn1 yn0 u v un0 q' ∧ 0 ≤ q' ∧ q' < 4294967296 ∧ q' * y ≤ u * 4294967296 + v ∧ u * 4294967296 + v < q' * y + y := by
      intro hc
      obtain ⟨g1, g2⟩ := kn_dec hy hu0 hu hv0 hv hq hq0 hc
      have e1 : (q - 1) * y = q * y - y := by rw [Int.sub_mul, Int.one_mul]
      have e2 : (q - 1) * yn1 = q * yn1 - yn1 := by rw [Int.sub_mul, Int.one_mul]
      simp only [bits_Div64.j1, ↓reduceIte]
      rw [wrap_id (x := q - 1) ⟨by omega, by omega⟩, wrap_id (x := r + yn1) ⟨by omega, by omega⟩]
      by_cases c : r + yn1 ≥ 4294967296
      · rw [if_pos c]
        have b := kn_brk (q := q - 1) (r := r + yn1) (u := u) (v := v) hy h2 h2' hv0 (by omega) (by omega) (by omega) c
        exact ⟨k, q - 1, by omega, rfl, by omega, kn_low hy hu hu0 hv b, b, by omega⟩
      · rw [if_neg c]
        obtain ⟨k', q', a1, a2, a3⟩ := ih k (q - 1) (r + yn1) (by omega) (by omega) (by omega) (by omega) (by omega) (by omega) (by omega) (by omega)
        exact ⟨k', q', by omega, a2, a3⟩
    simp only [bits_Div64.l0]
    by_cases c1 : q ≥ 4294967296
    · rw [if_pos c1]
      exact dec (.inl c1)
    · rw [if_neg c1]
      have b1 := mul_bd hq0 (by omega : q ≤ 4294967295) h2 (by omega : yn0 ≤ 4294967295)
      rw [wrap_id (x := q * yn0) ⟨by omega, by omega⟩, wrap_id (x := 4294967296 * r) ⟨by omega, by omega⟩, wrap_id (x := 4294967296 * r + v) ⟨by omega, by omega⟩]
      by_cases c2 : q * yn0 > 4294967296 * r + v
      · rw [decide_eq_true c2]
        exact dec (.inr c2)
      · rw [decide_eq_false c2]
        simp only [bits_Div64.j1, Bool.false_eq_true, ↓reduceIte]
        have e := kn_eq (q := q) hy
        exact ⟨k, q, by omega, rfl, hq0, by omega, by omega, hlt⟩
theorem Div64_l1 (y s yn1 yn0 u v q1 : Int) (hy : y = yn1 * 4294967296 + yn0) (h1 : 2147483648 ≤ yn1) (h1' : yn1 < 4294967296) (h2 : 0 ≤ yn0) (h2' : yn0 < 4294967296) (hu0 : 0 ≤ u) (hu : u < y) (hv0 : 0 ≤ v) (hv : v < 4294967296) (hs : 0 ≤ s) :
    ∀ (d k : Nat) (q r : Int), 2 * d + 2 ≤ k → 4294967296 ≤ r + d * 2147483648 → 0 ≤ r → r < 4294967296 → u = q * yn1 + r → 0 ≤ q → q ≤ 4294967297 → u * 4294967296 + v < q * y + y →
    ∃ q', bits_Div64.l1 k y s yn1 yn0 v q1 r u q = some (IntKind.u64.wrap (IntKind.u64.wrap (q1 * 4294967296) + q'), shr .u64 (IntKind.u64.wrap (IntKind.u64.wrap (IntKind.u64.wrap (u * 4294967296) + v) - IntKind.u64.wrap (q' * y))) s) ∧ 0 ≤ q' ∧ q' < 4294967296 ∧ q' * y ≤ u * 4294967296 + v ∧ u * 4294967296 + v < q' * y + y := by
  intro d
  induction d with
  | zero => intro k q r _ h; intros; omega
  | succ d ih =>
    intro k q r hk hd hr0 hr hq hq0 hq1 hlt
    obtain ⟨k, rfl⟩ : ∃ m, k = m + 2 := ⟨k - 2, by omega⟩
    have dec : q ≥ 4294967296 ∨ q * yn0 > 4294967296 * r + v → ∃ q', bits_Div64.j4 (k + 1) y s yn1 yn0 v q1 r u q true = some (IntKind.u64.wrap (IntKind.u64.wrap (q1 * 4294967296) + q'), shr .u64 (IntKind.u64.wrap (IntKind.u64.wrap (IntKind.u64.wrap (u * 4294967296) + v) - IntKind.u64.wrap (q' * y))) s) ∧ 0 ≤ q' ∧ q' < 4294967296 ∧ q' * y ≤ u * 4294967296 + v ∧ u * 4294967296 + v < q' * y + y := by
      intro hc
      obtain ⟨g1, g2⟩ := kn_dec hy hu0 hu hv0 hv hq hq0 hc
      have e1 : (q - 1) * y = q * y - y := by rw [Int.sub_mul, Int.one_mul]
      have e2 : (q - 1) * yn1 = q * yn1 - yn1 := by rw [Int.sub_mul, Int.one_mul]
      simp only [bits_Div64.j4, ↓reduceIte]
      rw [wrap_id (x := q - 1) ⟨by omega, by omega⟩, wrap_id (x := r + yn1) ⟨by omega, by omega⟩]
      by_cases c : r + yn1 ≥ 4294967296
      · rw [if_pos c, if_pos hs]
        have b := kn_brk (q := q - 1) (r := r + yn1) (u := u) (v := v) hy h2 h2' hv0 (by omega) (by omega) (by omega) c
        exact ⟨q - 1, rfl, by omega, kn_low hy hu hu0 hv b, b, by omega⟩
      · rw [if_neg c]
        exact ih k (q - 1) (r + yn1) (by omega) (by omega) (by omega) (by omega) (by omega) (by omega) (by omega) (by omega)
    simp only [bits_Div64.l1]
    by_cases c1 : q ≥ 4294967296
    · rw [if_pos c1]
      exact dec (.inl c1)
    · rw [if_neg c1]
      have b1 := mul_bd hq0 (by omega : q ≤ 4294967295) h2 (by omega : yn0 ≤ 4294967295)
      rw [wrap_id (x := q * yn0) ⟨by omega, by omega⟩, wrap_id (x := 4294967296 * r) ⟨by omega, by omega⟩, wrap_id (x := 4294967296 * r + v) ⟨by omega, by omega⟩]
      by_cases c2 : q * yn0 > 4294967296 * r + v
      · rw [decide_eq_true c2]
        exact dec (.inr c2)
      · rw [decide_eq_false c2]
        simp only [bits_Div64.j4, Bool.false_eq_true, ↓reduceIte]
        rw [if_pos hs]
        have e := kn_eq (q := q) hy
        exact ⟨q, rfl, hq0, by omega, by omega, hlt⟩
/-- bits.Div64, where the quotient fits: the quotient and the rest. -/
theorem Div64_ok (k : Nat) (hk : 20 ≤ k) (hi lo y : Int) (h0 : 0 ≤ hi) (hl : U64 lo) (hy : y < 18446744073709551616) (hlt : hi < y) :
    bits_Div64.f k hi lo y = some ((hi * 18446744073709551616 + lo) / y, (hi * 18446744073709551616 + lo) % y) := by
  obtain ⟨hl0, hl1⟩ := hl
  unfold bits_Div64.f
  rw [if_neg (by omega), if_neg (by omega)]
  by_cases c0 : hi = 0
  · subst c0
    rw [if_pos rfl, tdiv_nonneg_eq hl0, tmod_nonneg_eq hl0, wrap_id ⟨div_nonneg hl0 (by omega), ?_⟩]
    · simp
    · have := div_le hl0 (by omega : 0 < y)
      omega
  · rw [if_neg c0]
    obtain ⟨k, rfl⟩ : ∃ m, k = m + 1 := ⟨k - 1, by omega⟩
    obtain ⟨s, s1, s2, s3, s4⟩ := LeadingZeros64_ok k y (by omega) hy
    rw [s2]
    simp only [Option.bind_some]
    have P0 := two_pow_pos s
    have R0 := two_pow_pos (64 - s)
    have PR := two_pow_split s (64 - s) 64 (by omega)
    rw [show ((2 : Int) ^ 64) = 18446744073709551616 from rfl] at PR
    rw [wrap_id (x := (s : Int)) ⟨by omega, by omega⟩, wrap_id (x := 64 - (s : Int)) ⟨by omega, by omega⟩, if_pos (by omega), if_pos (by omega)]
    have es : (min ((s : Int).toNat) IntKind.u64.bits) = s := by simp [IntKind.bits] <;> omega
    have es' : (min ((64 - (s : Int)).toNat) IntKind.u64.bits) = 64 - s := by simp [IntKind.bits] <;> omega
    have eY : shl .u64 y (s : Int) = y * 2 ^ s := by unfold shl; rw [es, wrap_id ⟨by omega, s4⟩]
    have eH0 : hi * 2 ^ s ≤ y * 2 ^ s - 2 ^ s := by
      have := Int.mul_le_mul_of_nonneg_right (by omega : hi + 1 ≤ y) (Int.le_of_lt P0)
      rw [Int.add_mul, Int.one_mul] at this
      omega
    have eH1 : 0 ≤ hi * 2 ^ s := Int.mul_nonneg h0 (Int.le_of_lt P0)
    have eH : shl .u64 hi (s : Int) = hi * 2 ^ s := by unfold shl; rw [es, wrap_id ⟨eH1, by omega⟩]
    have eL : shr .u64 lo (64 - (s : Int)) = lo / 2 ^ (64 - s) := by unfold shr; rw [es']
    have eLl : lo / 2 ^ (64 - s) < 2 ^ s := div_lt R0 (by rw [PR]; exact hl1)
    have eL0 : 0 ≤ lo / 2 ^ (64 - s) := div_nonneg hl0 R0
    have eU : Go.bits .or .u64 (hi * 2 ^ s) (lo / 2 ^ (64 - s)) = hi * 2 ^ s + lo / 2 ^ (64 - s) :=
      bits_join .u64 64 (by decide) (fun n a b => wrap_id ⟨a, b⟩) s _ _ eH1 (Int.mul_emod_left _ _) (by show _ < (18446744073709551616 : Int); omega) eL0 eLl (by show _ < (18446744073709551616 : Int); omega)
    obtain ⟨d1, d2, d3⟩ := div_rest (n := lo) R0
    have eLo : lo * 2 ^ s = lo / 2 ^ (64 - s) * 18446744073709551616 + lo % 2 ^ (64 - s) * 2 ^ s := by
      conv => lhs; rw [← d1, Int.add_mul, Int.mul_assoc, Int.mul_comm (2 ^ (64 - s)), PR]
    have eR1 : lo % 2 ^ (64 - s) * 2 ^ s < 18446744073709551616 := by
      have := Int.mul_lt_mul_of_pos_right d3 P0
      rw [Int.mul_comm (2 ^ (64 - s)), PR] at this
      exact this
    have eR0 : 0 ≤ lo % 2 ^ (64 - s) * 2 ^ s := Int.mul_nonneg d2 (Int.le_of_lt P0)
    have eN : shl .u64 lo (s : Int) = lo % 2 ^ (64 - s) * 2 ^ s := by
      unfold shl
      rw [es, wrap_u64, eLo]
      omega
    have eA : Go.bits .and .u64 (y * 2 ^ s) 4294967295 = y * 2 ^ s % 4294967296 :=
      bits_mask .u64 64 (by decide) (fun n a b => wrap_id ⟨a, b⟩) 32 (by decide) _ (by omega) (by show _ < (18446744073709551616 : Int); omega)
    have eB : Go.bits .and .u64 (lo % 2 ^ (64 - s) * 2 ^ s) 4294967295 = lo % 2 ^ (64 - s) * 2 ^ s % 4294967296 :=
      bits_mask .u64 64 (by decide) (fun n a b => wrap_id ⟨a, b⟩) 32 (by decide) _ eR0 (by show _ < (18446744073709551616 : Int); omega)
    rw [eY, eH, eL, eN, eU, eA, eB]
    have eT : (hi * 18446744073709551616 + lo) * 2 ^ s = (hi * 2 ^ s + lo / 2 ^ (64 - s)) * 18446744073709551616 + lo % 2 ^ (64 - s) * 2 ^ s := by
      rw [Int.add_mul, eLo, Int.add_mul, Int.mul_assoc, Int.mul_comm 18446744073709551616 (2 ^ s), ← Int.mul_assoc]
      omega
    obtain ⟨z1, z2⟩ := div_scale (n := hi * 18446744073709551616 + lo) (y := y) P0 (by omega)
    rw [← z1, eT] at *
    generalize hU : hi * 2 ^ s + lo / 2 ^ (64 - s) = U at *
    generalize hV : lo % 2 ^ (64 - s) * 2 ^ s = V at *
    generalize hY : y * 2 ^ s = Y at *
    have hUY : U < Y := by omega
    have hU0 : 0 ≤ U := by omega
    have y1 : Y = Y / 4294967296 * 4294967296 + Y % 4294967296 := by omega
    rw [if_neg (by omega)]
    have n1 : 0 < Y / 4294967296 := by omega
    obtain ⟨g1, g2, g3⟩ := div_rest (n := U) n1
    have gq : U / (Y / 4294967296) < 4294967298 := div_lt n1 (by omega)
    have gq0 := div_nonneg hU0 n1
    rw [tdiv_nonneg_eq hU0, wrap_id (x := U / (Y / 4294967296)) ⟨gq0, by omega⟩]
    have gp0 : 0 ≤ U / (Y / 4294967296) * (Y / 4294967296) := Int.mul_nonneg gq0 (by omega)
    rw [wrap_id (x := U / (Y / 4294967296) * (Y / 4294967296)) ⟨gp0, by omega⟩, wrap_id (x := U - U / (Y / 4294967296) * (Y / 4294967296)) ⟨by omega, by omega⟩]
    have start : ∀ (u v : Int), 0 ≤ u → u < Y → 0 ≤ v → v < 4294967296 → u * 4294967296 + v < u / (Y / 4294967296) * Y + Y := by
      intro u v hu0 huY hv0 hv
      obtain ⟨f1, f2, f3⟩ := div_rest (n := u) n1
      have e := kn_eq (q := u / (Y / 4294967296)) y1
      have := Int.mul_nonneg (div_nonneg hu0 n1) (by omega : 0 ≤ Y % 4294967296)
      omega
    obtain ⟨k', q1, a1, a2, a3, a4, a5, a6⟩ := Div64_l0 Y s (Y / 4294967296) (Y % 4294967296) U (V / 4294967296) (V % 4294967296) y1 (by omega) (by omega) (by omega) (by omega) hU0 hUY (by omega) (by omega) 2 (k + 1) (U / (Y / 4294967296)) (U - U / (Y / 4294967296) * (Y / 4294967296)) (by omega) (by omega) (by omega) (by omega) (by omega) gq0 (by omega) (start U _ hU0 hUY (by omega) (by omega))
    rw [a2]
    obtain ⟨k', rfl⟩ : ∃ m, k' = m + 1 := ⟨k' - 1, by omega⟩
    simp only [bits_Div64.j2]
    rw [if_neg (by omega)]
    have w1 : IntKind.u64.wrap (IntKind.u64.wrap (IntKind.u64.wrap (U * 4294967296) + V / 4294967296) - IntKind.u64.wrap (q1 * Y)) = U * 4294967296 + V / 4294967296 - q1 * Y := by
      simp only [wrap_u64]
      omega
    rw [w1]
    generalize hu2 : U * 4294967296 + V / 4294967296 - q1 * Y = u2 at *
    obtain ⟨b1, b2, b3⟩ := div_rest (n := u2) n1
    have bq : u2 / (Y / 4294967296) < 4294967298 := div_lt n1 (by omega)
    have bq0 := div_nonneg (by omega : 0 ≤ u2) n1
    rw [tdiv_nonneg_eq (by omega : 0 ≤ u2), wrap_id (x := u2 / (Y / 4294967296)) ⟨bq0, by omega⟩]
    have bp0 : 0 ≤ u2 / (Y / 4294967296) * (Y / 4294967296) := Int.mul_nonneg bq0 (by omega)
    rw [wrap_id (x := u2 / (Y / 4294967296) * (Y / 4294967296)) ⟨bp0, by omega⟩, wrap_id (x := u2 - u2 / (Y / 4294967296) * (Y / 4294967296)) ⟨by omega, by omega⟩]
    obtain ⟨q0, c1, c2, c3, c4, c5⟩ := Div64_l1 Y s (Y / 4294967296) (Y % 4294967296) u2 (V % 4294967296) q1 y1 (by omega) (by omega) (by omega) (by omega) (by omega) (by omega) (by omega) (by omega) (by omega) 2 k' (u2 / (Y / 4294967296)) (u2 - u2 / (Y / 4294967296) * (Y / 4294967296)) (by omega) (by omega) (by omega) (by omega) (by omega) bq0 (by omega) (start u2 _ (by omega) (by omega) (by omega) (by omega))
    rw [c1]
    have eq : (q1 * 4294967296 + q0) * Y = q1 * Y * 4294967296 + q0 * Y := by
      rw [Int.add_mul, Int.mul_assoc, Int.mul_comm 4294967296 Y, ← Int.mul_assoc]
    obtain ⟨r1, r2⟩ := div_uniq (n := U * 18446744073709551616 + V) (y := Y) (q := q1 * 4294967296 + q0) (by omega) (by omega)
    have w2 : IntKind.u64.wrap (IntKind.u64.wrap (IntKind.u64.wrap (u2 * 4294967296) + V % 4294967296) - IntKind.u64.wrap (q0 * Y)) = u2 * 4294967296 + V % 4294967296 - q0 * Y := by
      simp only [wrap_u64]
      omega
    have w3 : IntKind.u64.wrap (IntKind.u64.wrap (q1 * 4294967296) + q0) = q1 * 4294967296 + q0 := by
      simp only [wrap_u64]
      omega
    rw [w2, w3, r1]
    have w4 : u2 * 4294967296 + V % 4294967296 - q0 * Y = (U * 18446744073709551616 + V) % Y := by rw [r2]; omega
    rw [w4, z2]
    unfold shr
    rw [es, Int.mul_ediv_cancel _ (by omega)]
/-- The number that two words stand for. -/
def wv (h l : Int) : Int := h * 18446744073709551616 + l
theorem wv_of {n : Int} : wv (n / 18446744073709551616) (n % 18446744073709551616) = n := by unfold wv; omega
theorem wv_zero {l : Int} : wv 0 l = l := by unfold wv; omega
theorem U64_hi {n : Int} (h0 : 0 ≤ n) (h1 : n < 340282366920938463463374607431768211456) : U64 (n / 18446744073709551616) := ⟨by omega, by omega⟩
theorem U64_lo {n : Int} : U64 (n % 18446744073709551616) := ⟨by omega, by omega⟩
theorem U64_zero : U64 0 := ⟨by decide, by decide⟩

section
variable {a0 a1 b0 b1 : Int}
theorem wide_Add_ok (h0 : U64 a0) (h1 : U64 a1) (h2 : U64 b0) (h3 : U64 b1) (h : wv a0 a1 + wv b0 b1 < 340282366920938463463374607431768211456) :
    wide_Add.f a0 a1 b0 b1 = some ((wv a0 a1 + wv b0 b1) / 18446744073709551616, (wv a0 a1 + wv b0 b1) % 18446744073709551616, 0) := by
  obtain ⟨_, _⟩ := h0; obtain ⟨_, _⟩ := h1; obtain ⟨_, _⟩ := h2; obtain ⟨_, _⟩ := h3
  unfold wv at *
  unfold wide_Add.f bits_Add64.f
  rw [if_pos ⟨by omega, by omega, by omega, by omega⟩]
  simp only [Option.bind_some]
  rw [if_pos ⟨by omega, by omega, by omega, by omega⟩]
  simp only [Option.bind_some]
  rw [if_pos (by omega)]
  congr 3 <;> omega
theorem wide_Small_ok (h0 : a0 = 0) : wide_Small.f a0 a1 = some (a1, 0) := by unfold wide_Small.f; rw [if_pos h0]
theorem wide_Small_err (h0 : a0 ≠ 0) : wide_Small.f a0 a1 = some (0, 16) := by unfold wide_Small.f; rw [if_neg h0]
theorem wide_Of_ok : wide_Of.f a0 = some (0, a0) := rfl
/-- The order of two numbers. -/
def wcmp (a b : Int) : Int := if a < b then -1 else if a = b then 0 else 1
theorem wcmp_nonneg {a b : Int} : wcmp a b ≥ 0 ↔ b ≤ a := by unfold wcmp; split <;> (try split) <;> omega
theorem cmp_Compare_ok (a b : Int) : cmp_Compare_uint64.f a b = some (wcmp a b) := by
  unfold cmp_Compare_uint64.f cmp_isNaN_uint64.f wcmp
  have e : ∀ x : Int, (x != x) = false := fun x => by simp
  simp only [e, Option.bind_some]
  rw [if_neg (by decide), if_neg (by decide)]
  by_cases c : a < b
  · rw [if_pos c, if_pos c]
  · rw [if_neg c, if_neg c]
    by_cases d : a > b
    · rw [if_pos d, if_neg (by omega)]
    · rw [if_neg d, if_pos (by omega)]
theorem w01 : wrap64 (0 + 1) = 1 := by unfold wrap64; omega
theorem w11 : wrap64 (1 + 1) = 2 := by unfold wrap64; omega
theorem cmp_Or_two (k : Nat) (x y : Int) : cmp_Or_int.f (k + 3) [x, y] = some (if x = 0 then y else x) := by
  unfold cmp_Or_int.f
  simp only [cmp_Or_int.l0, List.length_cons, List.length_nil, w01, w11]
  have e0 : rd [x, y] 0 = x := rfl
  have e1 : rd [x, y] 1 = y := rfl
  rw [e0, e1, if_pos (by decide), if_pos (by decide), if_pos (by decide)]
  by_cases c : x = 0
  · rw [if_pos c, if_pos c, if_pos (by decide), if_pos (by decide), if_pos (by decide)]
    by_cases d : y = 0
    · rw [if_pos d, if_neg (by decide), d]
    · rw [if_neg d]
  · rw [if_neg c, if_neg c]
theorem wide_Cmp_ok (k : Nat) (h1 : U64 a1) (h3 : U64 b1) : wide_Cmp.f (k + 3) a0 a1 b0 b1 = some (wcmp (wv a0 a1) (wv b0 b1)) := by
  obtain ⟨_, _⟩ := h1; obtain ⟨_, _⟩ := h3
  unfold wide_Cmp.f
  rw [cmp_Compare_ok, cmp_Compare_ok]
  simp only [Option.bind_some, cmp_Or_two]
  congr 1
  unfold wcmp wv
  split <;> (try split) <;> (try split) <;> (try split) <;> (try split) <;> (try split) <;> omega
end
theorem and_mask {x : Int} (h0 : 0 ≤ x) (h1 : x < 18446744073709551616) : Go.bits .and .u64 x 4294967295 = x % 4294967296 :=
  bits_mask .u64 64 (by decide) (fun n a b => wrap_id ⟨a, b⟩) 32 (by decide) x h0 h1
theorem mul_parts (x y : Int) : x * y = (x / 4294967296) * (y / 4294967296) * 18446744073709551616 + ((x / 4294967296) * (y % 4294967296) + (x % 4294967296) * (y / 4294967296)) * 4294967296 + (x % 4294967296) * (y % 4294967296) := by
  have hx : x = x / 4294967296 * 4294967296 + x % 4294967296 := by omega
  have hy : y = y / 4294967296 * 4294967296 + y % 4294967296 := by omega
  generalize x / 4294967296 = x1 at *
  generalize x % 4294967296 = x0 at *
  generalize y / 4294967296 = y1 at *
  generalize y % 4294967296 = y0 at *
  subst hx; subst hy
  rw [Int.add_mul, Int.mul_add, Int.mul_add]
  have e1 : x1 * 4294967296 * (y1 * 4294967296) = x1 * y1 * 18446744073709551616 := by
    rw [Int.mul_assoc, Int.mul_comm 4294967296 (y1 * 4294967296), Int.mul_assoc y1, ← Int.mul_assoc]; rfl
  have e2 : x1 * 4294967296 * y0 = x1 * y0 * 4294967296 := by rw [Int.mul_assoc, Int.mul_comm 4294967296, ← Int.mul_assoc]
  have e3 : x0 * (y1 * 4294967296) = x0 * y1 * 4294967296 := by rw [Int.mul_assoc]
  rw [e1, e2, e3]
  omega
section
variable {x y : Int}
theorem parts_bd (hx : U64 x) (hy : U64 y) :
    (0 ≤ (x / 4294967296) * (y / 4294967296) ∧ (x / 4294967296) * (y / 4294967296) ≤ 18446744065119617025) ∧ (0 ≤ (x / 4294967296) * (y % 4294967296) ∧ (x / 4294967296) * (y % 4294967296) ≤ 18446744065119617025) ∧
    (0 ≤ (x % 4294967296) * (y / 4294967296) ∧ (x % 4294967296) * (y / 4294967296) ≤ 18446744065119617025) ∧ (0 ≤ (x % 4294967296) * (y % 4294967296) ∧ (x % 4294967296) * (y % 4294967296) ≤ 18446744065119617025) := by
  obtain ⟨_, _⟩ := hx; obtain ⟨_, _⟩ := hy
  have b : ∀ a b : Int, 0 ≤ a → a ≤ 4294967295 → 0 ≤ b → b ≤ 4294967295 → 0 ≤ a * b ∧ a * b ≤ 18446744065119617025 := fun a b h0 h1 h2 h3 => mul_bd h0 h1 h2 h3
  exact ⟨b _ _ (by omega) (by omega) (by omega) (by omega), b _ _ (by omega) (by omega) (by omega) (by omega), b _ _ (by omega) (by omega) (by omega) (by omega), b _ _ (by omega) (by omega) (by omega) (by omega)⟩
theorem bits_Mul64_ok (hx : U64 x) (hy : U64 y) : bits_Mul64.f x y = some (x * y / 18446744073709551616, x * y % 18446744073709551616) := by
  obtain ⟨⟨a1, a2⟩, ⟨b1, b2⟩, ⟨c1, c2⟩, ⟨d1, d2⟩⟩ := parts_bd hx hy
  have e := mul_parts x y
  obtain ⟨hx0, hx1⟩ := hx; obtain ⟨hy0, hy1⟩ := hy
  unfold bits_Mul64.f
  rw [and_mask hx0 hx1, and_mask hy0 hy1, wrap_u64 (x * y)]
  generalize x / 4294967296 * (y / 4294967296) = p11 at *
  generalize x / 4294967296 * (y % 4294967296) = p10 at *
  generalize x % 4294967296 * (y / 4294967296) = p01 at *
  generalize x % 4294967296 * (y % 4294967296) = p00 at *
  generalize x * y = n at *
  rw [wrap_id (x := p11) ⟨by omega, by omega⟩, wrap_id (x := p10) ⟨by omega, by omega⟩, wrap_id (x := p00) ⟨by omega, by omega⟩, wrap_id (x := p01) ⟨by omega, by omega⟩,
    wrap_id (x := p10 + p00 / 4294967296) ⟨by omega, by omega⟩, and_mask (by omega) (by omega), wrap_id (x := (p10 + p00 / 4294967296) % 4294967296 + p01) ⟨by omega, by omega⟩,
    wrap_id (x := p11 + (p10 + p00 / 4294967296) / 4294967296) ⟨by omega, by omega⟩, wrap_id ⟨by omega, by omega⟩]
  congr 2
  omega
theorem wide_Mul_ok (hx : U64 x) (hy : U64 y) : wide_Mul.f x y = some (x * y / 18446744073709551616, x * y % 18446744073709551616) := by
  unfold wide_Mul.f
  rw [bits_Mul64_ok hx hy]
  rfl
end
section
variable {a0 a1 d : Int}
theorem wide_Div_ok (k : Nat) (hk : 20 ≤ k) (h0 : U64 a0) (h1 : U64 a1) (hd : 0 < d) (hd1 : d < 18446744073709551616) :
    wide_Div.f k a0 a1 d = some (wv a0 a1 / d / 18446744073709551616, wv a0 a1 / d % 18446744073709551616, wv a0 a1 % d, 0) := by
  obtain ⟨r1, r2, r3⟩ := div_rest (n := a0) hd
  have l0 := div_nonneg h0.1 hd
  have l1 := div_le h0.1 hd
  unfold wide_Div.f
  rw [if_neg (by omega), Div64_ok k hk 0 a0 d (by omega) h0 hd1 hd]
  simp only [Option.bind_some, Int.zero_mul, Int.zero_add]
  rw [Div64_ok k hk (a0 % d) a1 d r2 h1 hd1 r3]
  simp only [Option.bind_some]
  obtain ⟨g1, g2⟩ := h1
  obtain ⟨s1, s2, s3⟩ := div_rest (n := a0 % d * 18446744073709551616 + a1) hd
  have q0 := div_nonneg (n := a0 % d * 18446744073709551616 + a1) (by omega) hd
  have q1 : (a0 % d * 18446744073709551616 + a1) / d < 18446744073709551616 := div_lt hd (by omega)
  generalize (a0 % d * 18446744073709551616 + a1) / d = Q at *
  generalize (a0 % d * 18446744073709551616 + a1) % d = R at *
  generalize a0 / d = P at *
  have e : (P * 18446744073709551616 + Q) * d = P * d * 18446744073709551616 + Q * d := by
    rw [Int.add_mul, Int.mul_assoc, Int.mul_comm 18446744073709551616 d, ← Int.mul_assoc]
  obtain ⟨z1, z2⟩ := div_uniq (n := wv a0 a1) (y := d) (q := P * 18446744073709551616 + Q) (by unfold wv; omega) (by unfold wv; omega)
  rw [z1, z2, e]
  unfold wv
  congr 2
  · omega
  · congr 2
    · omega
    · congr 1
      omega
end
/-- A valid limit: Burst, Rate, Per. -/
def VL (b r p : Int) : Prop := 1 ≤ b ∧ b ≤ 1000000000 ∧ 0 ≤ r ∧ r ≤ 1000000000 ∧ 1 ≤ p ∧ p ≤ 1000000000
/-- A valid bucket: its limit, Level, Part, At. -/
def VB (b r p l q t : Int) : Prop := VL b r p ∧ 0 ≤ l ∧ l ≤ b ∧ 0 ≤ q ∧ q < p ∧ (l = b → q = 0) ∧ U64 t
section
variable {b r p l q t s : Int}
theorem CheckLimit_ok (h : VL b r p) : bucket_CheckLimit.f b r p = some 0 := by
  obtain ⟨_, _, _, _, _, _⟩ := h
  unfold bucket_CheckLimit.f
  rw [if_neg (by omega), if_neg (by omega), if_neg (by omega), if_neg (by omega), if_neg (by omega), if_neg (by omega)]
theorem CheckLimit_bad (h : ¬ VL b r p) : bucket_CheckLimit.f b r p = some 8 := by
  unfold bucket_CheckLimit.f
  unfold VL at h
  repeat' split
  all_goals first | rfl | (exfalso; omega)
theorem Check_ok (h : VB b r p l q t) : bucket_Check.f b r p l q t = some 0 := by
  obtain ⟨hl, h1, h2, h3, h4, h5, _⟩ := h
  have hb := hl.1
  have hb' := hl.2.1
  unfold bucket_Check.f
  rw [CheckLimit_ok hl]
  simp only [Option.bind_some, ↓reduceIte]
  rw [if_neg (by omega), wrap64_id (x := b - l) (by omega) (by omega), if_neg (by omega), if_neg (by omega), if_neg (by omega)]
  by_cases c : b - l = 0
  · rw [if_pos c, if_neg (by have := h5 (by omega); omega)]
  · rw [if_neg c]
/-- Level, Part and At behind a refill at t. -/
def fN (r q s t : Int) : Int := (t - s) * r + q
def fL (b r p l q s t : Int) : Int := if t ≤ s then l else if fN r q s t / p ≥ b - l then b else l + fN r q s t / p
def fP (b r p l q s t : Int) : Int := if t ≤ s then q else if fN r q s t / p ≥ b - l then 0 else fN r q s t % p
def fT (s t : Int) : Int := if t ≤ s then s else t
theorem fN_bd (hv : VB b r p l q s) (ht : U64 t) (h : s ≤ t) : 0 ≤ fN r q s t ∧ fN r q s t ≤ 18446744073709551615000000000 + 1000000000 ∧ 0 ≤ (t - s) * r ∧ (t - s) * r ≤ 18446744073709551615000000000 := by
  obtain ⟨⟨_, _, _, _, _, _⟩, _, _, _, _, _, ⟨_, _⟩⟩ := hv
  obtain ⟨_, _⟩ := ht
  have := mul_bd (by omega : 0 ≤ t - s) (by omega : t - s ≤ 18446744073709551615) (by assumption : 0 ≤ r) (by assumption : r ≤ 1000000000)
  unfold fN
  omega
theorem fill_ok (k : Nat) (hk : 20 ≤ k) (hv : VB b r p l q s) (ht : U64 t) : bucket_fill.f k b r p l q s t = some (b, r, p, fL b r p l q s t, fP b r p l q s t, fT s t) := by
  unfold bucket_fill.f fL fP fT
  by_cases c : t ≤ s
  · rw [if_pos c, if_pos c, if_pos c, if_pos c]
  · rw [if_neg c, if_neg c, if_neg c, if_neg c]
    obtain ⟨n0, n1, m0, m1⟩ := fN_bd hv ht (by omega : s ≤ t)
    obtain ⟨⟨b0, b1, r0, r1, p0, p1⟩, l0, l1, q0, q1, _, ⟨s0, s1⟩⟩ := hv
    obtain ⟨t0, t1⟩ := ht
    have ur : U64 r := ⟨by omega, by omega⟩
    have uq : U64 q := ⟨by omega, by omega⟩
    have up : U64 p := ⟨by omega, by omega⟩
    have ud : U64 (t - s) := ⟨by omega, by omega⟩
    have ub : U64 (b - l) := ⟨by omega, by omega⟩
    rw [wrap_id ud, wrap_id ur, wrap_id uq, wrap_id up, wide_Mul_ok ud ur, wide_Of_ok]
    simp only [Option.bind_some]
    rw [wide_Add_ok (U64_hi m0 (by omega)) U64_lo U64_zero uq (by rw [wv_of, wv_zero]; omega), wv_of, wv_zero]
    simp only [Option.bind_some]
    have e : (t - s) * r + q = fN r q s t := rfl
    rw [e, wide_Div_ok k hk (U64_hi n0 (by omega)) U64_lo (by omega) up.2, wv_of]
    simp only [Option.bind_some]
    have d0 := div_nonneg n0 (by omega : 0 < p)
    obtain ⟨e1, e2, e3⟩ := div_rest (n := fN r q s t) (by omega : 0 < p)
    by_cases c2 : fN r q s t / p < 18446744073709551616
    · rw [wide_Small_ok (by omega)]
      simp only [Option.bind_some, ↓reduceIte]
      rw [wrap64_id (x := b - l) (by omega) (by omega), wrap_id ub, show fN r q s t / p % 18446744073709551616 = fN r q s t / p by omega]
      by_cases c3 : fN r q s t / p ≥ b - l
      · rw [if_pos c3, if_pos c3, if_pos c3]
      · rw [if_neg c3, if_neg c3, if_neg c3, wrap64_id (x := fN r q s t / p) (by omega) (by omega), wrap64_id (by omega) (by omega), wrap64_id (by omega) (by omega)]
    · rw [wide_Small_err (by omega)]
      simp only [Option.bind_some]
      rw [if_neg (by decide), if_pos (by omega), if_pos (by omega)]
/-- What a bucket holds behind a refill, in parts. -/
theorem fill_amt (hv : VB b r p l q s) (h : s ≤ t) :
    (l * p + q + (t - s) * r < b * p → fL b r p l q s t * p + fP b r p l q s t = l * p + q + (t - s) * r) ∧ (b * p ≤ l * p + q + (t - s) * r → fL b r p l q s t = b ∧ fP b r p l q s t = 0) := by
  obtain ⟨⟨b0, b1, r0, r1, p0, p1⟩, l0, l1, q0, q1, hf, _⟩ := hv
  unfold fL fP
  by_cases c : t ≤ s
  · rw [if_pos c, if_pos c]
    have : t = s := by omega
    subst this
    rw [Int.sub_self, Int.zero_mul, Int.add_zero]
    refine ⟨fun _ => rfl, fun h => ?_⟩
    rcases Int.lt_or_le l b with g | g
    · have := Int.mul_le_mul_of_nonneg_right (by omega : l + 1 ≤ b) (by omega : 0 ≤ p)
      rw [Int.add_mul, Int.one_mul] at this
      omega
    · exact ⟨by omega, hf (by omega)⟩
  · rw [if_neg c, if_neg c]
    obtain ⟨e1, e2, e3⟩ := div_rest (n := fN r q s t) (by omega : 0 < p)
    have ef : fN r q s t = (t - s) * r + q := rfl
    by_cases c3 : fN r q s t / p ≥ b - l
    · rw [if_pos c3, if_pos c3]
      have h1 := Int.mul_le_mul_of_nonneg_right c3 (by omega : 0 ≤ p)
      rw [Int.sub_mul] at h1
      exact ⟨fun h => by omega, fun _ => ⟨rfl, rfl⟩⟩
    · rw [if_neg c3, if_neg c3]
      have h1 := Int.mul_le_mul_of_nonneg_right (by omega : fN r q s t / p + 1 ≤ b - l) (by omega : 0 ≤ p)
      rw [Int.sub_mul, Int.add_mul, Int.one_mul] at h1
      rw [Int.add_mul]
      exact ⟨fun _ => by omega, fun h => by omega⟩
theorem fT_U64 (hs : U64 s) (ht : U64 t) : U64 (fT s t) := by unfold fT; split <;> assumption
theorem fill_valid (hv : VB b r p l q s) (ht : U64 t) : VB b r p (fL b r p l q s t) (fP b r p l q s t) (fT s t) := by
  have hv0 := hv
  obtain ⟨hl, l0, l1, q0, q1, hf, hs⟩ := hv
  refine ⟨hl, ?_⟩
  have hT := fT_U64 hs ht
  obtain ⟨b0, b1, r0, r1, p0, p1⟩ := hl
  by_cases c : t ≤ s
  · unfold fL fP
    rw [if_pos c, if_pos c]
    exact ⟨l0, l1, q0, q1, hf, hT⟩
  · obtain ⟨n0, n1, m0, m1⟩ := fN_bd hv0 ht (by omega : s ≤ t)
    unfold fL fP
    rw [if_neg c, if_neg c]
    obtain ⟨e1, e2, e3⟩ := div_rest (n := fN r q s t) (by omega : 0 < p)
    have d0 := div_nonneg n0 (by omega : 0 < p)
    by_cases c3 : fN r q s t / p ≥ b - l
    · rw [if_pos c3, if_pos c3]
      exact ⟨by omega, by omega, by omega, by omega, fun _ => rfl, hT⟩
    · rw [if_neg c3, if_neg c3]
      exact ⟨by omega, by omega, e2, e3, fun h => by omega, hT⟩
/-- Amounts tell Level and Part. -/
theorem amt_inj {l q l' q' p : Int} (q0 : 0 ≤ q) (q1 : q < p) (q0' : 0 ≤ q') (q1' : q' < p) (h : l * p + q = l' * p + q') : l = l' ∧ q = q' := by
  obtain ⟨a, b⟩ := div_uniq (n := l * p + q) (y := p) (q := l) (by omega) (by omega)
  obtain ⟨a', b'⟩ := div_uniq (n := l' * p + q') (y := p) (q := l') (by omega) (by omega)
  rw [h] at a b
  exact ⟨by omega, by omega⟩
theorem Refill_ok (k : Nat) (hk : 20 ≤ k) (hv : VB b r p l q s) (ht : U64 t) : bucket_Refill.f k b r p l q s t = some (b, r, p, fL b r p l q s t, fP b r p l q s t, fT s t, 0) := by
  unfold bucket_Refill.f
  rw [Check_ok hv]
  simp only [Option.bind_some, ↓reduceIte]
  rw [fill_ok k hk hv ht]
  rfl
end
section
variable {b r p l q t s c : Int}
theorem ref_CheckLimit_ok (h : VL b r p) : spigotref03_CheckLimit.f b r p = some 0 := CheckLimit_ok h
theorem ref_CheckLimit_bad (h : ¬ VL b r p) : spigotref03_CheckLimit.f b r p = some 8 := CheckLimit_bad h
theorem ref_Check_ok (h : VB b r p l q s) : spigotref03_Check.f b r p l q s = some 0 := by
  obtain ⟨hl, h1, h2, h3, h4, h5, _⟩ := h
  unfold spigotref03_Check.f
  rw [ref_CheckLimit_ok hl]
  simp only [Option.bind_some, ↓reduceIte]
  rw [if_neg (by omega), if_neg (by omega), if_neg (by omega), if_neg (by omega)]
  by_cases c : l = b
  · rw [if_pos c, if_pos (h5 c)]
  · rw [if_neg c]
theorem ref_Check_bad (ht : U64 s) (h : ¬ VB b r p l q s) : spigotref03_Check.f b r p l q s = some 8 := by
  unfold spigotref03_Check.f
  by_cases hv : VL b r p
  · rw [ref_CheckLimit_ok hv]
    simp only [Option.bind_some, ↓reduceIte]
    have h' : ¬ (0 ≤ l ∧ l ≤ b ∧ 0 ≤ q ∧ q < p ∧ (l = b → q = 0)) := fun g => h ⟨hv, g.1, g.2.1, g.2.2.1, g.2.2.2.1, g.2.2.2.2, ht⟩
    repeat' split
    all_goals first | rfl | (exfalso; omega)
  · rw [ref_CheckLimit_bad hv]
    simp
end
section
variable {b r p l q s t u c : Int}
/-- The parts of a bucket, refilled at t. -/
def fA (b r p l q s t : Int) : Int := fL b r p l q s t * p + fP b r p l q s t
theorem fA_eq (hv : VB b r p l q s) : fA b r p l q s t = if t ≤ s then l * p + q else if l * p + q + (t - s) * r < b * p then l * p + q + (t - s) * r else b * p := by
  unfold fA
  by_cases h : t ≤ s
  · rw [if_pos h]
    unfold fL fP
    rw [if_pos h, if_pos h]
  · rw [if_neg h]
    obtain ⟨f1, f2⟩ := fill_amt hv (by omega : s ≤ t)
    by_cases g : l * p + q + (t - s) * r < b * p
    · rw [if_pos g, f1 g]
    · rw [if_neg g]
      obtain ⟨e1, e2⟩ := f2 (by omega)
      rw [e1, e2]
      omega
theorem amt_le (hv : VB b r p l q s) : 0 ≤ l * p + q ∧ l * p + q ≤ b * p := by
  obtain ⟨⟨b0, b1, r0, r1, p0, p1⟩, l0, l1, q0, q1, hf, hs⟩ := hv
  have h0 := Int.mul_nonneg l0 (by omega : 0 ≤ p)
  rcases Int.lt_or_le l b with g | g
  · have := Int.mul_le_mul_of_nonneg_right (by omega : l + 1 ≤ b) (by omega : 0 ≤ p)
    rw [Int.add_mul, Int.one_mul] at this
    omega
  · have e : l = b := by omega
    subst e
    have := hf rfl
    omega
/-- Level and Part are known by the parts. -/
theorem of_fA {b' r' l' q' s' t' : Int} (hv : VB b r p l q s) (hv' : VB b' r' p l' q' s') (ht : U64 t) (ht' : U64 t') (h : fA b r p l q s t = fA b' r' p l' q' s' t') : fL b r p l q s t = fL b' r' p l' q' s' t' ∧ fP b r p l q s t = fP b' r' p l' q' s' t' := by
  obtain ⟨_, _, _, a0, a1, _⟩ := fill_valid hv ht
  obtain ⟨_, _, _, b0, b1, _⟩ := fill_valid hv' ht'
  exact amt_inj a0 a1 b0 b1 h
theorem fill_fill (hv : VB b r p l q s) (hu : U64 u) (ht : U64 t) (h : u ≤ t) :
    fL b r p (fL b r p l q s u) (fP b r p l q s u) (fT s u) t = fL b r p l q s t ∧ fP b r p (fL b r p l q s u) (fP b r p l q s u) (fT s u) t = fP b r p l q s t ∧ fT (fT s u) t = fT s t := by
  have hw := fill_valid hv hu
  have e3 : fT (fT s u) t = fT s t := by unfold fT; split <;> split <;> (try split) <;> omega
  have key : fA b r p (fL b r p l q s u) (fP b r p l q s u) (fT s u) t = fA b r p l q s t := by
    rw [fA_eq hw, fA_eq hv]
    have e : fL b r p l q s u * p + fP b r p l q s u = fA b r p l q s u := rfl
    rw [e, fA_eq hv]
    have r0 := hv.1.2.2.1
    by_cases c1 : u ≤ s
    · have e2 : fT s u = s := by unfold fT; rw [if_pos c1]
      rw [if_pos c1, e2]
    · have e2 : fT s u = u := by unfold fT; rw [if_neg c1]
      rw [if_neg c1, e2]
      have m1 : (t - s) * r = (u - s) * r + (t - u) * r := by rw [← Int.add_mul]; congr 1; omega
      have m2 := Int.mul_nonneg (by omega : 0 ≤ t - u) r0
      have m3 := Int.mul_nonneg (by omega : 0 ≤ u - s) r0
      by_cases c2 : t ≤ u
      · have e4 : t = u := by omega
        subst e4
        rw [if_pos (Int.le_refl _), if_neg c1]
      · rw [if_neg c2, if_neg (show ¬ t ≤ s by omega)]
        split <;> split <;> (try split) <;> omega
  obtain ⟨e1, e2⟩ := of_fA hw hv ht ht key
  exact ⟨e1, e2, e3⟩
end
set_option maxRecDepth 100000 in
theorem alive03_ : spigotlaw03_alive.f 60 = some true := by kernel_rfl
theorem alive03 (k : Nat) (hk : 60 ≤ k) : spigotlaw03_alive.f k = some true := up_ (fun k => spigotlaw03_alive.mono k) alive03_ k hk
theorem two_level {p L P L' P' : Int} (h1 : 0 ≤ P) (h2 : P' < p) (h : L * p + P ≤ L' * p + P') (hp : 0 ≤ p) : ¬ L' < L := by
  intro g
  have := Int.mul_le_mul_of_nonneg_right (by omega : L' + 1 ≤ L) hp
  rw [Int.add_mul, Int.one_mul] at this
  omega
theorem BucketTwo_pure (b r p l q s u t : Int) (hb : I64 b) (hr : I64 r) (hp : I64 p) (hl : I64 l) (hq : I64 q) (hs : U64 s) (hu : U64 u) (ht : U64 t) : ∃ k, spigotlaw03_BucketTwo.f k b r p l q s u t = some true := by
  refine ⟨101, ?_⟩
  have fin : spigotlaw03_BucketTwo.j0 101 u t true b r p l q s = some true := by
    simp only [spigotlaw03_BucketTwo.j0, ↓reduceIte]
    rw [alive03 100 (by omega)]
    rfl
  unfold spigotlaw03_BucketTwo.f
  by_cases hv : VB b r p l q s
  · rw [ref_Check_ok hv]
    simp only [Option.bind_some, ↓reduceIte]
    by_cases c1 : u < s
    · rw [if_pos c1]
      exact fin
    · rw [if_neg c1]
      by_cases c2 : t < u
      · rw [decide_eq_true c2]
        exact fin
      · rw [decide_eq_false c2]
        have hw := fill_valid hv hu
        have hz := fill_valid hv ht
        obtain ⟨e1, e2, e3⟩ := fill_fill (u := u) (t := t) hv hu ht (by omega)
        have eT : fT s t = t := by unfold fT; split <;> omega
        obtain ⟨f1, f2⟩ := fill_amt (t := t) hv (by omega)
        obtain ⟨n1, n2, n3, n4⟩ := fN_bd hv ht (by omega)
        have mono : fA b r p l q s u ≤ fA b r p l q s t := by
          have m1 : (t - s) * r = (u - s) * r + (t - u) * r := by rw [← Int.add_mul]; congr 1; omega
          have r0 := hv.1.2.2.1
          have m2 := Int.mul_nonneg (by omega : 0 ≤ t - u) r0
          have m3 := Int.mul_nonneg (by omega : 0 ≤ u - s) r0
          have al := amt_le hv
          rw [fA_eq hv, fA_eq hv]
          split <;> split <;> (try split) <;> (try split) <;> omega
        have lev : ¬ fL b r p l q s t < fL b r p l q s u := two_level (P := fP b r p l q s u) (P' := fP b r p l q s t) hw.2.2.2.1 hz.2.2.2.2.1 mono (by have := hv.1.2.2.2.2.1; omega)
        have nb := amt_le hz
        have ab := amt_le hv
        have al := alive03 100 (by omega)
        obtain ⟨⟨v1, v2, v3, v4, v5, v6⟩, v7, v8, v9, v10, _, _⟩ := hv
        obtain ⟨_, z1, z2, z3, z4, _, _⟩ := hz
        have tb : 0 ≤ b * p ∧ b * p ≤ 1000000000 * 1000000000 := mul_bd (by omega) v2 (by omega) v6
        have lp : 0 ≤ l * p ∧ l * p ≤ 1000000000 * 1000000000 := mul_bd v7 (by omega) (by omega) v6
        have zp : 0 ≤ fL b r p l q s t * p ∧ fL b r p l q s t * p ≤ 1000000000 * 1000000000 := mul_bd z1 (by omega) (by omega) v6
        have ub : U64 b := ⟨by omega, by omega⟩
        have up : U64 p := ⟨by omega, by omega⟩
        have ur : U64 r := ⟨by omega, by omega⟩
        have ul : U64 l := ⟨by omega, by omega⟩
        have uq : U64 q := ⟨by omega, by omega⟩
        have uL : U64 (fL b r p l q s t) := ⟨by omega, by omega⟩
        have uP : U64 (fP b r p l q s t) := ⟨by omega, by omega⟩
        have ud : U64 (t - s) := by obtain ⟨_, _⟩ := hs; obtain ⟨_, _⟩ := ht; exact ⟨by omega, by omega⟩
        have r1 := Refill_ok 100 (by omega) (b := b) (r := r) (p := p) (l := l) (q := q) (s := s) (t := u) ⟨⟨v1, v2, v3, v4, v5, v6⟩, v7, v8, v9, v10, by assumption, hs⟩ hu
        have r2 := Refill_ok 100 (by omega) hw ht
        have r3 := Refill_ok 100 (by omega) (b := b) (r := r) (p := p) (l := l) (q := q) (s := s) (t := t) ⟨⟨v1, v2, v3, v4, v5, v6⟩, v7, v8, v9, v10, by assumption, hs⟩ ht
        rw [e1, e2, e3] at r2
        have k1 := ref_Check_ok hw
        have k2 := ref_Check_ok (fill_valid (t := t) (b := b) (r := r) (p := p) (l := l) (q := q) (s := s) ⟨⟨v1, v2, v3, v4, v5, v6⟩, v7, v8, v9, v10, by assumption, hs⟩ ht)
        simp only [spigotlaw03_BucketTwo.j0]
        rw [if_neg (by decide), r1]
        simp only [Option.bind_some]
        rw [r2, r3]
        simp only [Option.bind_some, ↓reduceIte, beq_self_eq_true, Bool.not_true, Bool.or_self, Bool.false_eq_true]
        rw [k1, k2]
        simp only [Option.bind_some, ↓reduceIte]
        rw [if_pos eT, if_neg lev, wrap_id ul, wrap_id up, wrap_id uq, wrap_id ud, wrap_id ur, wrap_id uL, wrap_id uP, wrap_id ub]
        clear r1 r2 r3 k1 k2 e1 e2 e3 hw lev mono
        generalize fL b r p l q s t = L at *
        generalize fP b r p l q s t = P at *
        rw [wide_Mul_ok ul up, wide_Of_ok, wide_Mul_ok ud ur, wide_Mul_ok uL up, wide_Of_ok, wide_Mul_ok ub up]
        simp only [Option.bind_some]
        rw [wide_Add_ok (U64_hi lp.1 (by omega)) U64_lo U64_zero uq (by rw [wv_of, wv_zero]; omega), wv_of, wv_zero, wide_Add_ok (U64_hi zp.1 (by omega)) U64_lo U64_zero uP (by rw [wv_of, wv_zero]; omega), wv_of, wv_zero]
        simp only [Option.bind_some, ↓reduceIte]
        rw [wide_Add_ok (U64_hi ab.1 (by omega)) U64_lo (U64_hi n3 (by omega)) U64_lo (by rw [wv_of, wv_of]; omega), wv_of, wv_of]
        simp only [Option.bind_some, ↓reduceIte]
        rw [(wide_Cmp_ok 97 U64_lo U64_lo : wide_Cmp.f 100 _ _ _ _ = _), wv_of, wv_of]
        simp only [Option.bind_some]
        by_cases c : b * p ≤ l * p + q + (t - s) * r
        · obtain ⟨g1, g2⟩ := f2 c
          have e : L * p + P = b * p := by rw [g1, g2]; omega
          rw [if_pos (wcmp_nonneg.2 c), if_pos g1, e, al]
          simp only [beq_self_eq_true, Bool.and_self, ↓reduceIte, Option.bind_some]
        · have e := f1 (by omega)
          rw [if_neg (fun h => c (wcmp_nonneg.1 h)), e, al]
          simp only [beq_self_eq_true, Bool.and_self, ↓reduceIte, Option.bind_some]
  · rw [ref_Check_bad hs hv]
    simp only [Option.bind_some]
    rw [if_neg (by decide)]
    exact fin
end Go.Proofs.Ytmfkedeaifdfdaa.X
