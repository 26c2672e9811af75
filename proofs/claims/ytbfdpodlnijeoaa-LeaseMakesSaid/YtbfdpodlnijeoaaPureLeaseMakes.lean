/- LeaseMakes, and what it needs. -/
import Derived.Test.YtbfdpodlnijeoaaX0
import Derived.Test.YtbfdpodlnijeoaaX3
import Derived.Test.YtbfdpodlnijeoaaX4
import Derived.Test.YtbfdpodlnijeoaaX5
import Derived.Test.YtbfdpodlnijeoaaX6
import Derived.Test.YtbfdpodlnijeoaaX7
import Derived.Test.YtbfdpodlnijeoaaX8
import Derived.Test.YtbfdpodlnijeoaaX9
import Derived.Test.YtbfdpodlnijeoaaX10
import Derived.Test.YtbfdpodlnijeoaaX11
import Derived.Test.YtbfdpodlnijeoaaX12
import Derived.Test.YtbfdpodlnijeoaaX13
import Derived.Test.YtbfdpodlnijeoaaX14
import Derived.Test.YtbfdpodlnijeoaaX17
import Derived.Test.YtbfdpodlnijeoaaX18
import Derived.Test.YtbfdpodlnijeoaaX19
import Derived.Test.YtbfdpodlnijeoaaX20
import Derived.Test.YtbfdpodlnijeoaaX21
import Derived.Test.YtbfdpodlnijeoaaMath
namespace Go.Proofs.Ytbfdpodlnijeoaa.X
open Go.RowKit Go.Proofs.YtbfdpodlnijeoaaW.PrintWords Go.Proofs.YtbfdpodlnijeoaaW.PrintLast Go.Proofs.YtbfdpodlnijeoaaW.PrintMore
set_option linter.unusedVariables false
set_option linter.unusedSimpArgs false

theorem wj {j : Nat} (h : j < 9223372036854775807) : wrap64 ((j : Int) + 1) = ((j + 1 : Nat) : Int) := by unfold wrap64; omega
theorem rd_at {l : List Int} {j : Nat} (h : j < l.length) : rd l (j : Int) = l[j] := by
  unfold rd
  rw [List.getD_eq_getElem?_getD, Int.toNat_natCast, List.getElem?_eq_getElem h]
  rfl
/-- From the table: how many bits a byte needs. -/
theorem tab_byte (b : Nat) (hb : b < 256) (h0 : 0 < b) : ∃ t : Nat, 1 ≤ t ∧ t ≤ 8 ∧ 2 ^ (t - 1) ≤ b ∧ b < 2 ^ t ∧ bt (⟨#[0, 1, 2, 2, 3, 3, 3, 3, 4, 4, 4, 4, 4, 4, 4, 4, 5, 5, 5, 5, 5, 5, 5, 5, 5, 5, 5, 5, 5, 5, 5, 5, 6, 6, 6, 6, 6, 6, 6, 6, 6, 6, 6, 6, 6, 6, 6, 6, 6, 6, 6, 6, 6, 6, 6, 6, 6, 6, 6, 6, 6, 6, 6, 6, 7, 7, 7, 7, 7, 7, 7, 7, 7, 7, 7, 7, 7, 7, 7, 7, 7, 7, 7, 7, 7, 7, 7, 7, 7, 7, 7, 7, 7, 7, 7, 7, 7, 7, 7, 7, 7, 7, 7, 7, 7, 7, 7, 7, 7, 7, 7, 7, 7, 7, 7, 7, 7, 7, 7, 7, 7, 7, 7, 7, 7, 7, 7, 7, 8, 8, 8, 8, 8, 8, 8, 8, 8, 8, 8, 8, 8, 8, 8, 8, 8, 8, 8, 8, 8, 8, 8, 8, 8, 8, 8, 8, 8, 8, 8, 8, 8, 8, 8, 8, 8, 8, 8, 8, 8, 8, 8, 8, 8, 8, 8, 8, 8, 8, 8, 8, 8, 8, 8, 8, 8, 8, 8, 8, 8, 8, 8, 8, 8, 8, 8, 8, 8, 8, 8, 8, 8, 8, 8, 8, 8, 8, 8, 8, 8, 8, 8, 8, 8, 8, 8, 8, 8, 8, 8, 8, 8, 8, 8, 8, 8, 8, 8, 8, 8, 8, 8, 8, 8, 8, 8, 8, 8, 8, 8, 8, 8, 8, 8, 8, 8, 8, 8, 8, 8, 8, 8, 8, 8, 8, 8, 8]⟩ : ByteArray) (b : Int) = (t : Int) := by
  have h : ∀ b : Fin 256, 0 < b.val → ∃ t : Fin 9, 1 ≤ t.val ∧ 2 ^ (t.val - 1) ≤ b.val ∧ b.val < 2 ^ t.val ∧ bt (⟨#[0, 1, 2, 2, 3, 3, 3, 3, 4, 4, 4, 4, 4, 4, 4, 4, 5, 5, 5, 5, 5, 5, 5, 5, 5, 5, 5, 5, 5, 5, 5, 5, 6, 6, 6, 6, 6, 6, 6, 6, 6, 6, 6, 6, 6, 6, 6, 6, 6, 6, 6, 6, 6, 6, 6, 6, 6, 6, 6, 6, 6, 6, 6, 6, 7, 7, 7, 7, 7, 7, 7, 7, 7, 7, 7, 7, 7, 7, 7, 7, 7, 7, 7, 7, 7, 7, 7, 7, 7, 7, 7, 7, 7, 7, 7, 7, 7, 7, 7, 7, 7, 7, 7, 7, 7, 7, 7, 7, 7, 7, 7, 7, 7, 7, 7, 7, 7, 7, 7, 7, 7, 7, 7, 7, 7, 7, 7, 7, 8, 8, 8, 8, 8, 8, 8, 8, 8, 8, 8, 8, 8, 8, 8, 8, 8, 8, 8, 8, 8, 8, 8, 8, 8, 8, 8, 8, 8, 8, 8, 8, 8, 8, 8, 8, 8, 8, 8, 8, 8, 8, 8, 8, 8, 8, 8, 8, 8, 8, 8, 8, 8, 8, 8, 8, 8, 8, 8, 8, 8, 8, 8, 8, 8, 8, 8, 8, 8, 8, 8, 8, 8, 8, 8, 8, 8, 8, 8, 8, 8, 8, 8, 8, 8, 8, 8, 8, 8, 8, 8, 8, 8, 8, 8, 8, 8, 8, 8, 8, 8, 8, 8, 8, 8, 8, 8, 8, 8, 8, 8, 8, 8, 8, 8, 8, 8, 8, 8, 8, 8, 8, 8, 8, 8, 8, 8, 8]⟩ : ByteArray) (b.val : Int) = (t.val : Int) := by decide +kernel
  obtain ⟨t, h1, h2, h3, h4⟩ := h ⟨b, hb⟩ h0
  exact ⟨t.val, h1, by omega, h2, h3, h4⟩
/-- How many bits a number needs, behind a shift by m. -/
theorem bits_shift {x b : Int} {t m : Nat} (hb : b = x / 2 ^ m) (h1 : 1 ≤ t) (h2 : (2 : Int) ^ (t - 1) ≤ b) (h3 : b < 2 ^ t) : (2 : Int) ^ (t + m - 1) ≤ x ∧ x < 2 ^ (t + m) := by
  subst hb
  obtain ⟨d1, d2⟩ := div_bd (n := x) (two_pow_pos m)
  have e1 := two_pow_split (t - 1) m (t + m - 1) (by omega)
  have e2 := two_pow_split t m (t + m) rfl
  have k1 := Int.mul_le_mul_of_nonneg_right h2 (Int.le_of_lt (two_pow_pos m))
  have k2 : x / 2 ^ m * 2 ^ m + 2 ^ m ≤ 2 ^ t * 2 ^ m := by
    have : (x / 2 ^ m + 1) * 2 ^ m ≤ 2 ^ t * 2 ^ m := Int.mul_le_mul_of_nonneg_right (by omega) (Int.le_of_lt (two_pow_pos m))
    rw [Int.add_mul, Int.one_mul] at this
    exact this
  omega
set_option maxRecDepth 100000 in
theorem Len64_j0 (k : Nat) (x o : Int) (m : Nat) (ho : o = m) (hm : m ≤ 32) (h0 : 0 < x) (h1 : x < 4294967296) :
    ∃ t : Nat, 1 ≤ t ∧ t ≤ 32 ∧ bits_Len64.j0 (k + 1) x o = some ((t + m : Nat) : Int) ∧ (2 : Int) ^ (t - 1) ≤ x ∧ x < 2 ^ t := by
  rw [bits_Len64.j0]
  have key : ∀ (b : Int) (s : Nat), b = x / 2 ^ s → 0 < b → b < 256 → s ≤ 24 → ∃ t : Nat, 1 ≤ t ∧ t ≤ 8 ∧ bt (⟨#[0, 1, 2, 2, 3, 3, 3, 3, 4, 4, 4, 4, 4, 4, 4, 4, 5, 5, 5, 5, 5, 5, 5, 5, 5, 5, 5, 5, 5, 5, 5, 5, 6, 6, 6, 6, 6, 6, 6, 6, 6, 6, 6, 6, 6, 6, 6, 6, 6, 6, 6, 6, 6, 6, 6, 6, 6, 6, 6, 6, 6, 6, 6, 6, 7, 7, 7, 7, 7, 7, 7, 7, 7, 7, 7, 7, 7, 7, 7, 7, 7, 7, 7, 7, 7, 7, 7, 7, 7, 7, 7, 7, 7, 7, 7, 7, 7, 7, 7, 7, 7, 7, 7, 7, 7, 7, 7, 7, 7, 7, 7, 7, 7, 7, 7, 7, 7, 7, 7, 7, 7, 7, 7, 7, 7, 7, 7, 7, 8, 8, 8, 8, 8, 8, 8, 8, 8, 8, 8, 8, 8, 8, 8, 8, 8, 8, 8, 8, 8, 8, 8, 8, 8, 8, 8, 8, 8, 8, 8, 8, 8, 8, 8, 8, 8, 8, 8, 8, 8, 8, 8, 8, 8, 8, 8, 8, 8, 8, 8, 8, 8, 8, 8, 8, 8, 8, 8, 8, 8, 8, 8, 8, 8, 8, 8, 8, 8, 8, 8, 8, 8, 8, 8, 8, 8, 8, 8, 8, 8, 8, 8, 8, 8, 8, 8, 8, 8, 8, 8, 8, 8, 8, 8, 8, 8, 8, 8, 8, 8, 8, 8, 8, 8, 8, 8, 8, 8, 8, 8, 8, 8, 8, 8, 8, 8, 8, 8, 8, 8, 8, 8, 8, 8, 8, 8, 8]⟩ : ByteArray) b = (t : Int) ∧ (2 : Int) ^ (t + s - 1) ≤ x ∧ x < 2 ^ (t + s) := by
    intro b s hb b0 b1 hs
    obtain ⟨c, rfl⟩ := Int.eq_ofNat_of_zero_le (Int.le_of_lt b0)
    obtain ⟨t, t1, t2, t3, t4, t5⟩ := tab_byte c (by omega) (by omega)
    obtain ⟨e1, e2⟩ := bits_shift (x := x) (b := c) (t := t) (m := s) hb t1 (by exact_mod_cast t3) (by exact_mod_cast t4)
    exact ⟨t, t1, t2, t5, e1, e2⟩
  by_cases c1 : x ≥ 65536
  · rw [if_pos c1]
    by_cases c2 : x / 65536 ≥ 256
    · rw [if_pos c2, if_pos (by omega), if_pos (by omega)]
      obtain ⟨t, t1, t2, t3, t4, t5⟩ := key (x / 65536 / 256 % 256) 24 (by rw [Int.emod_eq_of_lt (by omega) (by omega), show ((2 : Int) ^ 24) = 16777216 from rfl]; omega) (by omega) (by omega) (by omega)
      refine ⟨t + 24, by omega, by omega, ?_, t4, t5⟩
      rw [t3, ho, wrap64_id (x := (m : Int) + 16) (by omega) (by omega), wrap64_id (x := (m : Int) + 16 + 8) (by omega) (by omega), wrap64_id (x := (t : Int)) (by omega) (by omega), wrap64_id (by omega) (by omega)]
      congr 1
      omega
    · rw [if_neg c2, if_pos (by omega), if_pos (by omega)]
      obtain ⟨t, t1, t2, t3, t4, t5⟩ := key (x / 65536 % 256) 16 (by rw [Int.emod_eq_of_lt (by omega) (by omega), show ((2 : Int) ^ 16) = 65536 from rfl]) (by omega) (by omega) (by omega)
      refine ⟨t + 16, by omega, by omega, ?_, t4, t5⟩
      rw [t3, ho, wrap64_id (x := (m : Int) + 16) (by omega) (by omega), wrap64_id (x := (t : Int)) (by omega) (by omega), wrap64_id (by omega) (by omega)]
      congr 1
      omega
  · rw [if_neg c1]
    by_cases c2 : x ≥ 256
    · rw [if_pos c2, if_pos (by omega), if_pos (by omega)]
      obtain ⟨t, t1, t2, t3, t4, t5⟩ := key (x / 256 % 256) 8 (by rw [Int.emod_eq_of_lt (by omega) (by omega), show ((2 : Int) ^ 8) = 256 from rfl]) (by omega) (by omega) (by omega)
      refine ⟨t + 8, by omega, by omega, ?_, t4, t5⟩
      rw [t3, ho, wrap64_id (x := (m : Int) + 8) (by omega) (by omega), wrap64_id (x := (t : Int)) (by omega) (by omega), wrap64_id (by omega) (by omega)]
      congr 1
      omega
    · rw [if_neg c2, if_pos (by omega), if_pos (by omega)]
      obtain ⟨t, t1, t2, t3, t4, t5⟩ := key (x % 256) 0 (by rw [Int.emod_eq_of_lt (by omega) (by omega)]; simp) (by omega) (by omega) (by omega)
      refine ⟨t, by omega, by omega, ?_, t4, t5⟩
      rw [t3, ho, wrap64_id (x := (t : Int)) (by omega) (by omega), wrap64_id (by omega) (by omega)]
      congr 1
      omega
theorem Len64_ok (k : Nat) (x : Int) (h0 : 0 < x) (h1 : x < 18446744073709551616) :
    ∃ t : Nat, 1 ≤ t ∧ t ≤ 64 ∧ bits_Len64.f (k + 1) x = some (t : Int) ∧ (2 : Int) ^ (t - 1) ≤ x ∧ x < 2 ^ t := by
  unfold bits_Len64.f
  by_cases c : x ≥ 4294967296
  · rw [if_pos c]
    obtain ⟨t, t1, t2, t3, t4, t5⟩ := Len64_j0 k (x / 4294967296) 32 32 rfl (by omega) (by omega) (by omega)
    obtain ⟨e1, e2⟩ := bits_shift (x := x) (b := x / 4294967296) (t := t) (m := 32) (by rw [show ((2 : Int) ^ 32) = 4294967296 from rfl]) t1 t4 t5
    exact ⟨t + 32, by omega, by omega, t3, e1, e2⟩
  · rw [if_neg c]
    obtain ⟨t, t1, t2, t3, t4, t5⟩ := Len64_j0 k x 0 0 rfl (by omega) h0 (by omega)
    exact ⟨t, by omega, by omega, t3, t4, t5⟩
theorem LeadingZeros64_ok (k : Nat) (x : Int) (h0 : 0 < x) (h1 : x < 18446744073709551616) :
    ∃ s : Nat, s ≤ 63 ∧ bits_LeadingZeros64.f (k + 1) x = some (s : Int) ∧ (9223372036854775808 : Int) ≤ x * 2 ^ s ∧ x * 2 ^ s < 18446744073709551616 := by
  obtain ⟨t, t1, t2, t3, t4, t5⟩ := Len64_ok k x h0 h1
  refine ⟨64 - t, by omega, ?_, ?_, ?_⟩
  · unfold bits_LeadingZeros64.f
    rw [t3]
    simp only [Option.bind_some]
    rw [wrap64_id (by omega) (by omega)]
    congr 1
    omega
  · have e := two_pow_split (t - 1) (64 - t) 63 (by omega)
    have k1 := Int.mul_le_mul_of_nonneg_right t4 (Int.le_of_lt (two_pow_pos (64 - t)))
    rw [e] at k1
    exact k1
  · have e := two_pow_split t (64 - t) 64 (by omega)
    have k1 := Int.mul_lt_mul_of_pos_right t5 (two_pow_pos (64 - t))
    rw [e] at k1
    exact k1

/-! #### the loops of Div64: a guessed digit is lowered until it is the digit -/
section
variable {y yn1 yn0 u v q r : Int}
theorem kn_eq (hy : y = yn1 * 4294967296 + yn0) : q * y = q * yn1 * 4294967296 + q * yn0 := by rw [hy, Int.mul_add, Int.mul_assoc]
theorem kn_dec (hy : y = yn1 * 4294967296 + yn0) (hu0 : 0 ≤ u) (hu : u < y) (hv0 : 0 ≤ v) (hv : v < 4294967296) (hq : u = q * yn1 + r) (hq0 : 0 ≤ q) (hc : q ≥ 4294967296 ∨ q * yn0 > 4294967296 * r + v) : u * 4294967296 + v < q * y ∧ 1 ≤ q := by
  have e := kn_eq (q := q) hy
  have h : u * 4294967296 + v < q * y := by
    rcases hc with h | h
    · have := Int.mul_le_mul_of_nonneg_right h (by omega : 0 ≤ y)
      omega
    · omega
  refine ⟨h, ?_⟩
  rcases Int.lt_or_le 0 q with h' | h'
  · omega
  · have : q = 0 := by omega
    subst this
    rw [Int.zero_mul] at h
    omega
theorem kn_low (hy : y = yn1 * 4294967296 + yn0) (hu : u < y) (hu0 : 0 ≤ u) (hv : v < 4294967296) (hq : q * y ≤ u * 4294967296 + v) : q < 4294967296 := by
  rcases Int.lt_or_le q 4294967296 with h | h
  · exact h
  · have := Int.mul_le_mul_of_nonneg_right h (by omega : 0 ≤ y)
    omega
theorem kn_brk (hy : y = yn1 * 4294967296 + yn0) (h2 : 0 ≤ yn0) (h2' : yn0 < 4294967296) (hv0 : 0 ≤ v) (hq : u = q * yn1 + r) (hq0 : 0 ≤ q) (hq1 : q ≤ 4294967296) (hr : 4294967296 ≤ r) : q * y ≤ u * 4294967296 + v := by
  have e := kn_eq (q := q) hy
  have h := (mul_bd hq0 hq1 h2 (by omega : yn0 ≤ 4294967295)).2
  omega
end

theorem Div64_l0 (y s yn1 yn0 u v un0 : Int) (hy : y = yn1 * 4294967296 + yn0) (h1 : 2147483648 ≤ yn1) (h1' : yn1 < 4294967296) (h2 : 0 ≤ yn0) (h2' : yn0 < 4294967296) (hu0 : 0 ≤ u) (hu : u < y) (hv0 : 0 ≤ v) (hv : v < 4294967296) :
    ∀ (d k : Nat) (q r : Int), 2 * d + 2 ≤ k → 4294967296 ≤ r + d * 2147483648 → 0 ≤ r → r < 4294967296 → u = q * yn1 + r → 0 ≤ q → q ≤ 4294967297 → u * 4294967296 + v < q * y + y →
    ∃ k' q', k ≤ k' + (2 * d + 2) ∧ bits_Div64.l0 k y s yn1 yn0 u v un0 q r = bits_Div64.j2 k' y s yn1 yn0 u v un0 q' ∧ 0 ≤ q' ∧ q' < 4294967296 ∧ q' * y ≤ u * 4294967296 + v ∧ u * 4294967296 + v < q' * y + y := by
  intro d
  induction d with
  | zero => intro k q r _ h; intros; omega
  | succ d ih =>
    intro k q r hk hd hr0 hr hq hq0 hq1 hlt
    obtain ⟨k, rfl⟩ : ∃ m, k = m + 2 := ⟨k - 2, by omega⟩
    have dec : q ≥ 4294967296 ∨ q * yn0 > 4294967296 * r + v → ∃ k' q', k + 2 ≤ k' + (2 * (d + 1) + 2) ∧ bits_Div64.j1 (k + 1) y s yn1 yn0 u v un0 q r true = bits_Div64.j2 k' y s yn1 yn0 u v un0 q' ∧ 0 ≤ q' ∧ q' < 4294967296 ∧ q' * y ≤ u * 4294967296 + v ∧ u * 4294967296 + v < q' * y + y := by
      intro hc
      obtain ⟨g1, g2⟩ := kn_dec hy hu0 hu hv0 hv hq hq0 hc
      have e1 : (q - 1) * y = q * y - y := by rw [Int.sub_mul, Int.one_mul]
      have e2 : (q - 1) * yn1 = q * yn1 - yn1 := by rw [Int.sub_mul, Int.one_mul]
      simp only [bits_Div64.j1, ↓reduceIte]
      rw [wrap_id (x := q - 1) ⟨by omega, by omega⟩, wrap_id (x := r + yn1) ⟨by omega, by omega⟩]
      by_cases c : r + yn1 ≥ 4294967296
      · rw [if_pos c]
        have b := kn_brk (q := q - 1) (r := r + yn1) (u := u) (v := v) hy h2 h2' hv0 (by omega) (by omega) (by omega) c
        exact ⟨k, q - 1, by omega, rfl, by omega, kn_low hy hu hu0 hv b, b, by omega⟩
      · rw [if_neg c]
        obtain ⟨k', q', a1, a2, a3⟩ := ih k (q - 1) (r + yn1) (by omega) (by omega) (by omega) (by omega) (by omega) (by omega) (by omega) (by omega)
        exact ⟨k', q', by omega, a2, a3⟩
    simp only [bits_Div64.l0]
    by_cases c1 : q ≥ 4294967296
    · rw [if_pos c1]
      exact dec (.inl c1)
    · rw [if_neg c1]
      have b1 := mul_bd hq0 (by omega : q ≤ 4294967295) h2 (by omega : yn0 ≤ 4294967295)
      rw [wrap_id (x := q * yn0) ⟨by omega, by omega⟩, wrap_id (x := 4294967296 * r) ⟨by omega, by omega⟩, wrap_id (x := 4294967296 * r + v) ⟨by omega, by omega⟩]
      by_cases c2 : q * yn0 > 4294967296 * r + v
      · rw [decide_eq_true c2]
        exact dec (.inr c2)
      · rw [decide_eq_false c2]
        simp only [bits_Div64.j1, Bool.false_eq_true, ↓reduceIte]
        have e := kn_eq (q := q) hy
        exact ⟨k, q, by omega, rfl, hq0, by omega, by omega, hlt⟩
theorem Div64_l1 (y s yn1 yn0 u v q1 : Int) (hy : y = yn1 * 4294967296 + yn0) (h1 : 2147483648 ≤ yn1) (h1' : yn1 < 4294967296) (h2 : 0 ≤ yn0) (h2' : yn0 < 4294967296) (hu0 : 0 ≤ u) (hu : u < y) (hv0 : 0 ≤ v) (hv : v < 4294967296) (hs : 0 ≤ s) :
    ∀ (d k : Nat) (q r : Int), 2 * d + 2 ≤ k → 4294967296 ≤ r + d * 2147483648 → 0 ≤ r → r < 4294967296 → u = q * yn1 + r → 0 ≤ q → q ≤ 4294967297 → u * 4294967296 + v < q * y + y →
    ∃ q', bits_Div64.l1 k y s yn1 yn0 v q1 r u q = some (IntKind.u64.wrap (IntKind.u64.wrap (q1 * 4294967296) + q'), shr .u64 (IntKind.u64.wrap (IntKind.u64.wrap (IntKind.u64.wrap (u * 4294967296) + v) - IntKind.u64.wrap (q' * y))) s) ∧ 0 ≤ q' ∧ q' < 4294967296 ∧ q' * y ≤ u * 4294967296 + v ∧ u * 4294967296 + v < q' * y + y := by
  intro d
  induction d with
  | zero => intro k q r _ h; intros; omega
  | succ d ih =>
    intro k q r hk hd hr0 hr hq hq0 hq1 hlt
    obtain ⟨k, rfl⟩ : ∃ m, k = m + 2 := ⟨k - 2, by omega⟩
    have dec : q ≥ 4294967296 ∨ q * yn0 > 4294967296 * r + v → ∃ q', bits_Div64.j4 (k + 1) y s yn1 yn0 v q1 r u q true = some (IntKind.u64.wrap (IntKind.u64.wrap (q1 * 4294967296) + q'), shr .u64 (IntKind.u64.wrap (IntKind.u64.wrap (IntKind.u64.wrap (u * 4294967296) + v) - IntKind.u64.wrap (q' * y))) s) ∧ 0 ≤ q' ∧ q' < 4294967296 ∧ q' * y ≤ u * 4294967296 + v ∧ u * 4294967296 + v < q' * y + y := by
      intro hc
      obtain ⟨g1, g2⟩ := kn_dec hy hu0 hu hv0 hv hq hq0 hc
      have e1 : (q - 1) * y = q * y - y := by rw [Int.sub_mul, Int.one_mul]
      have e2 : (q - 1) * yn1 = q * yn1 - yn1 := by rw [Int.sub_mul, Int.one_mul]
      simp only [bits_Div64.j4, ↓reduceIte]
      rw [wrap_id (x := q - 1) ⟨by omega, by omega⟩, wrap_id (x := r + yn1) ⟨by omega, by omega⟩]
      by_cases c : r + yn1 ≥ 4294967296
      · rw [if_pos c, if_pos hs]
        have b := kn_brk (q := q - 1) (r := r + yn1) (u := u) (v := v) hy h2 h2' hv0 (by omega) (by omega) (by omega) c
        exact ⟨q - 1, rfl, by omega, kn_low hy hu hu0 hv b, b, by omega⟩
      · rw [if_neg c]
        exact ih k (q - 1) (r + yn1) (by omega) (by omega) (by omega) (by omega) (by omega) (by omega) (by omega) (by omega)
    simp only [bits_Div64.l1]
    by_cases c1 : q ≥ 4294967296
    · rw [if_pos c1]
      exact dec (.inl c1)
    · rw [if_neg c1]
      have b1 := mul_bd hq0 (by omega : q ≤ 4294967295) h2 (by omega : yn0 ≤ 4294967295)
      rw [wrap_id (x := q * yn0) ⟨by omega, by omega⟩, wrap_id (x := 4294967296 * r) ⟨by omega, by omega⟩, wrap_id (x := 4294967296 * r + v) ⟨by omega, by omega⟩]
      by_cases c2 : q * yn0 > 4294967296 * r + v
      · rw [decide_eq_true c2]
        exact dec (.inr c2)
      · rw [decide_eq_false c2]
        simp only [bits_Div64.j4, Bool.false_eq_true, ↓reduceIte]
        rw [if_pos hs]
        have e := kn_eq (q := q) hy
        exact ⟨q, rfl, hq0, by omega, by omega, hlt⟩
/-- bits.Div64, where the quotient fits: the quotient and the rest. -/
theorem Div64_ok (k : Nat) (hk : 20 ≤ k) (hi lo y : Int) (h0 : 0 ≤ hi) (hl : U64 lo) (hy : y < 18446744073709551616) (hlt : hi < y) :
    bits_Div64.f k hi lo y = some ((hi * 18446744073709551616 + lo) / y, (hi * 18446744073709551616 + lo) % y) := by
  obtain ⟨hl0, hl1⟩ := hl
  unfold bits_Div64.f
  rw [if_neg (by omega), if_neg (by omega)]
  by_cases c0 : hi = 0
  · subst c0
    rw [if_pos rfl, tdiv_nonneg_eq hl0, tmod_nonneg_eq hl0, wrap_id ⟨div_nonneg hl0 (by omega), ?_⟩]
    · simp
    · have := div_le hl0 (by omega : 0 < y)
      omega
  · rw [if_neg c0]
    obtain ⟨k, rfl⟩ : ∃ m, k = m + 1 := ⟨k - 1, by omega⟩
    obtain ⟨s, s1, s2, s3, s4⟩ := LeadingZeros64_ok k y (by omega) hy
    rw [s2]
    simp only [Option.bind_some]
    have P0 := two_pow_pos s
    have R0 := two_pow_pos (64 - s)
    have PR := two_pow_split s (64 - s) 64 (by omega)
    rw [show ((2 : Int) ^ 64) = 18446744073709551616 from rfl] at PR
    rw [wrap_id (x := (s : Int)) ⟨by omega, by omega⟩, wrap_id (x := 64 - (s : Int)) ⟨by omega, by omega⟩, if_pos (by omega), if_pos (by omega)]
    have es : (min ((s : Int).toNat) IntKind.u64.bits) = s := by simp [IntKind.bits] <;> omega
    have es' : (min ((64 - (s : Int)).toNat) IntKind.u64.bits) = 64 - s := by simp [IntKind.bits] <;> omega
    have eY : shl .u64 y (s : Int) = y * 2 ^ s := by unfold shl; rw [es, wrap_id ⟨by omega, s4⟩]
    have eH0 : hi * 2 ^ s ≤ y * 2 ^ s - 2 ^ s := by
      have := Int.mul_le_mul_of_nonneg_right (by omega : hi + 1 ≤ y) (Int.le_of_lt P0)
      rw [Int.add_mul, Int.one_mul] at this
      omega
    have eH1 : 0 ≤ hi * 2 ^ s := Int.mul_nonneg h0 (Int.le_of_lt P0)
    have eH : shl .u64 hi (s : Int) = hi * 2 ^ s := by unfold shl; rw [es, wrap_id ⟨eH1, by omega⟩]
    have eL : shr .u64 lo (64 - (s : Int)) = lo / 2 ^ (64 - s) := by unfold shr; rw [es']
    have eLl : lo / 2 ^ (64 - s) < 2 ^ s := div_lt R0 (by rw [PR]; exact hl1)
    have eL0 : 0 ≤ lo / 2 ^ (64 - s) := div_nonneg hl0 R0
    have eU : Go.bits .or .u64 (hi * 2 ^ s) (lo / 2 ^ (64 - s)) = hi * 2 ^ s + lo / 2 ^ (64 - s) :=
      bits_join .u64 64 (by decide) (fun n a b => wrap_id ⟨a, b⟩) s _ _ eH1 (Int.mul_emod_left _ _) (by show _ < (18446744073709551616 : Int); omega) eL0 eLl (by show _ < (18446744073709551616 : Int); omega)
    obtain ⟨d1, d2, d3⟩ := div_rest (n := lo) R0
    have eLo : lo * 2 ^ s = lo / 2 ^ (64 - s) * 18446744073709551616 + lo % 2 ^ (64 - s) * 2 ^ s := by
      conv => lhs; rw [← d1, Int.add_mul, Int.mul_assoc, Int.mul_comm (2 ^ (64 - s)), PR]
    have eR1 : lo % 2 ^ (64 - s) * 2 ^ s < 18446744073709551616 := by
      have := Int.mul_lt_mul_of_pos_right d3 P0
      rw [Int.mul_comm (2 ^ (64 - s)), PR] at this
      exact this
    have eR0 : 0 ≤ lo % 2 ^ (64 - s) * 2 ^ s := Int.mul_nonneg d2 (Int.le_of_lt P0)
    have eN : shl .u64 lo (s : Int) = lo % 2 ^ (64 - s) * 2 ^ s := by
      unfold shl
      rw [es, wrap_u64, eLo]
      omega
    have eA : Go.bits .and .u64 (y * 2 ^ s) 4294967295 = y * 2 ^ s % 4294967296 :=
      bits_mask .u64 64 (by decide) (fun n a b => wrap_id ⟨a, b⟩) 32 (by decide) _ (by omega) (by show _ < (18446744073709551616 : Int); omega)
    have eB : Go.bits .and .u64 (lo % 2 ^ (64 - s) * 2 ^ s) 4294967295 = lo % 2 ^ (64 - s) * 2 ^ s % 4294967296 :=
      bits_mask .u64 64 (by decide) (fun n a b => wrap_id ⟨a, b⟩) 32 (by decide) _ eR0 (by show _ < (18446744073709551616 : Int); omega)
    rw [eY, eH, eL, eN, eU, eA, eB]
    have eT : (hi * 18446744073709551616 + lo) * 2 ^ s = (hi * 2 ^ s + lo / 2 ^ (64 - s)) * 18446744073709551616 + lo % 2 ^ (64 - s) * 2 ^ s := by
      rw [Int.add_mul, eLo, Int.add_mul, Int.mul_assoc, Int.mul_comm 18446744073709551616 (2 ^ s), ← Int.mul_assoc]
      omega
    obtain ⟨z1, z2⟩ := div_scale (n := hi * 18446744073709551616 + lo) (y := y) P0 (by omega)
    rw [← z1, eT] at *
    generalize hU : hi * 2 ^ s + lo / 2 ^ (64 - s) = U at *
    generalize hV : lo % 2 ^ (64 - s) * 2 ^ s = V at *
    generalize hY : y * 2 ^ s = Y at *
    have hUY : U < Y := by omega
    have hU0 : 0 ≤ U := by omega
    have y1 : Y = Y / 4294967296 * 4294967296 + Y % 4294967296 := by omega
    rw [if_neg (by omega)]
    have n1 : 0 < Y / 4294967296 := by omega
    obtain ⟨g1, g2, g3⟩ := div_rest (n := U) n1
    have gq : U / (Y / 4294967296) < 4294967298 := div_lt n1 (by omega)
    have gq0 := div_nonneg hU0 n1
    rw [tdiv_nonneg_eq hU0, wrap_id (x := U / (Y / 4294967296)) ⟨gq0, by omega⟩]
    have gp0 : 0 ≤ U / (Y / 4294967296) * (Y / 4294967296) := Int.mul_nonneg gq0 (by omega)
    rw [wrap_id (x := U / (Y / 4294967296) * (Y / 4294967296)) ⟨gp0, by omega⟩, wrap_id (x := U - U / (Y / 4294967296) * (Y / 4294967296)) ⟨by omega, by omega⟩]
    have start : ∀ (u v : Int), 0 ≤ u → u < Y → 0 ≤ v → v < 4294967296 → u * 4294967296 + v < u / (Y / 4294967296) * Y + Y := by
      intro u v hu0 huY hv0 hv
      obtain ⟨f1, f2, f3⟩ := div_rest (n := u) n1
      have e := kn_eq (q := u / (Y / 4294967296)) y1
      have := Int.mul_nonneg (div_nonneg hu0 n1) (by omega : 0 ≤ Y % 4294967296)
      omega
    obtain ⟨k', q1, a1, a2, a3, a4, a5, a6⟩ := Div64_l0 Y s (Y / 4294967296) (Y % 4294967296) U (V / 4294967296) (V % 4294967296) y1 (by omega) (by omega) (by omega) (by omega) hU0 hUY (by omega) (by omega) 2 (k + 1) (U / (Y / 4294967296)) (U - U / (Y / 4294967296) * (Y / 4294967296)) (by omega) (by omega) (by omega) (by omega) (by omega) gq0 (by omega) (start U _ hU0 hUY (by omega) (by omega))
    rw [a2]
    obtain ⟨k', rfl⟩ : ∃ m, k' = m + 1 := ⟨k' - 1, by omega⟩
    simp only [bits_Div64.j2]
    rw [if_neg (by omega)]
    have w1 : IntKind.u64.wrap (IntKind.u64.wrap (IntKind.u64.wrap (U * 4294967296) + V / 4294967296) - IntKind.u64.wrap (q1 * Y)) = U * 4294967296 + V / 4294967296 - q1 * Y := by
      simp only [wrap_u64]
      omega
    rw [w1]
    generalize hu2 : U * 4294967296 + V / 4294967296 - q1 * Y = u2 at *
    obtain ⟨b1, b2, b3⟩ := div_rest (n := u2) n1
    have bq : u2 / (Y / 4294967296) < 4294967298 := div_lt n1 (by omega)
    have bq0 := div_nonneg (by omega : 0 ≤ u2) n1
    rw [tdiv_nonneg_eq (by omega : 0 ≤ u2), wrap_id (x := u2 / (Y / 4294967296)) ⟨bq0, by omega⟩]
    have bp0 : 0 ≤ u2 / (Y / 4294967296) * (Y / 4294967296) := Int.mul_nonneg bq0 (by omega)
    rw [wrap_id (x := u2 / (Y / 4294967296) * (Y / 4294967296)) ⟨bp0, by omega⟩, wrap_id (x := u2 - u2 / (Y / 4294967296) * (Y / 4294967296)) ⟨by omega, by omega⟩]
    obtain ⟨q0, c1, c2, c3, c4, c5⟩ := Div64_l1 Y s (Y / 4294967296) (Y % 4294967296) u2 (V % 4294967296) q1 y1 (by omega) (by omega) (by omega) (by omega) (by omega) (by omega) (by omega) (by omega) (by omega) 2 k' (u2 / (Y / 4294967296)) (u2 - u2 / (Y / 4294967296) * (Y / 4294967296)) (by omega) (by omega) (by omega) (by omega) (by omega) bq0 (by omega) (start u2 _ (by omega) (by omega) (by omega) (by omega))
    rw [c1]
    have eq : (q1 * 4294967296 + q0) * Y = q1 * Y * 4294967296 + q0 * Y := by
      rw [Int.add_mul, Int.mul_assoc, Int.mul_comm 4294967296 Y, ← Int.mul_assoc]
    obtain ⟨r1, r2⟩ := div_uniq (n := U * 18446744073709551616 + V) (y := Y) (q := q1 * 4294967296 + q0) (by omega) (by omega)
    have w2 : IntKind.u64.wrap (IntKind.u64.wrap (IntKind.u64.wrap (u2 * 4294967296) + V % 4294967296) - IntKind.u64.wrap (q0 * Y)) = u2 * 4294967296 + V % 4294967296 - q0 * Y := by
      simp only [wrap_u64]
      omega
    have w3 : IntKind.u64.wrap (IntKind.u64.wrap (q1 * 4294967296) + q0) = q1 * 4294967296 + q0 := by
      simp only [wrap_u64]
      omega
    rw [w2, w3, r1]
    have w4 : u2 * 4294967296 + V % 4294967296 - q0 * Y = (U * 18446744073709551616 + V) % Y := by rw [r2]; omega
    rw [w4, z2]
    unfold shr
    rw [es, Int.mul_ediv_cancel _ (by omega)]
/-- The number that two words stand for. -/
def wv (h l : Int) : Int := h * 18446744073709551616 + l
theorem wv_of {n : Int} : wv (n / 18446744073709551616) (n % 18446744073709551616) = n := by unfold wv; omega
theorem wv_zero {l : Int} : wv 0 l = l := by unfold wv; omega
theorem U64_hi {n : Int} (h0 : 0 ≤ n) (h1 : n < 340282366920938463463374607431768211456) : U64 (n / 18446744073709551616) := ⟨by omega, by omega⟩
theorem U64_lo {n : Int} : U64 (n % 18446744073709551616) := ⟨by omega, by omega⟩
theorem U64_zero : U64 0 := ⟨by decide, by decide⟩

section
variable {a0 a1 b0 b1 : Int}
theorem wide_Add_ok (h0 : U64 a0) (h1 : U64 a1) (h2 : U64 b0) (h3 : U64 b1) (h : wv a0 a1 + wv b0 b1 < 340282366920938463463374607431768211456) :
    wide_Add.f a0 a1 b0 b1 = some ((wv a0 a1 + wv b0 b1) / 18446744073709551616, (wv a0 a1 + wv b0 b1) % 18446744073709551616, 0) := by
  obtain ⟨_, _⟩ := h0; obtain ⟨_, _⟩ := h1; obtain ⟨_, _⟩ := h2; obtain ⟨_, _⟩ := h3
  unfold wv at *
  unfold wide_Add.f bits_Add64.f
  rw [if_pos ⟨by omega, by omega, by omega, by omega⟩]
  simp only [Option.bind_some]
  rw [if_pos ⟨by omega, by omega, by omega, by omega⟩]
  simp only [Option.bind_some]
  rw [if_pos (by omega)]
  congr 3 <;> omega
theorem wide_Small_ok (h0 : a0 = 0) : wide_Small.f a0 a1 = some (a1, 0) := by unfold wide_Small.f; rw [if_pos h0]
theorem wide_Small_err (h0 : a0 ≠ 0) : wide_Small.f a0 a1 = some (0, 16) := by unfold wide_Small.f; rw [if_neg h0]
theorem wide_Of_ok : wide_Of.f a0 = some (0, a0) := rfl
end
theorem and_mask {x : Int} (h0 : 0 ≤ x) (h1 : x < 18446744073709551616) : Go.bits .and .u64 x 4294967295 = x % 4294967296 :=
  bits_mask .u64 64 (by decide) (fun n a b => wrap_id ⟨a, b⟩) 32 (by decide) x h0 h1
theorem mul_parts (x y : Int) : x * y = (x / 4294967296) * (y / 4294967296) * 18446744073709551616 + ((x / 4294967296) * (y % 4294967296) + (x % 4294967296) * (y / 4294967296)) * 4294967296 + (x % 4294967296) * (y % 4294967296) := by
  have hx : x = x / 4294967296 * 4294967296 + x % 4294967296 := by omega
  have hy : y = y / 4294967296 * 4294967296 + y % 4294967296 := by omega
  generalize x / 4294967296 = x1 at *
  generalize x % 4294967296 = x0 at *
  generalize y / 4294967296 = y1 at *
  generalize y % 4294967296 = y0 at *
  subst hx; subst hy
  rw [Int.add_mul, Int.mul_add, Int.mul_add]
  have e1 : x1 * 4294967296 * (y1 * 4294967296) = x1 * y1 * 18446744073709551616 := by
    rw [Int.mul_assoc, Int.mul_comm 4294967296 (y1 * 4294967296), Int.mul_assoc y1, ← Int.mul_assoc]; rfl
  have e2 : x1 * 4294967296 * y0 = x1 * y0 * 4294967296 := by rw [Int.mul_assoc, Int.mul_comm 4294967296, ← Int.mul_assoc]
  have e3 : x0 * (y1 * 4294967296) = x0 * y1 * 4294967296 := by rw [Int.mul_assoc]
  rw [e1, e2, e3]
  omega
section
variable {x y : Int}
theorem parts_bd (hx : U64 x) (hy : U64 y) :
    (0 ≤ (x / 4294967296) * (y / 4294967296) ∧ (x / 4294967296) * (y / 4294967296) ≤ 18446744065119617025) ∧ (0 ≤ (x / 4294967296) * (y % 4294967296) ∧ (x / 4294967296) * (y % 4294967296) ≤ 18446744065119617025) ∧
    (0 ≤ (x % 4294967296) * (y / 4294967296) ∧ (x % 4294967296) * (y / 4294967296) ≤ 18446744065119617025) ∧ (0 ≤ (x % 4294967296) * (y % 4294967296) ∧ (x % 4294967296) * (y % 4294967296) ≤ 18446744065119617025) := by
  obtain ⟨_, _⟩ := hx; obtain ⟨_, _⟩ := hy
  have b : ∀ a b : Int, 0 ≤ a → a ≤ 4294967295 → 0 ≤ b → b ≤ 4294967295 → 0 ≤ a * b ∧ a * b ≤ 18446744065119617025 := fun a b h0 h1 h2 h3 => mul_bd h0 h1 h2 h3
  exact ⟨b _ _ (by omega) (by omega) (by omega) (by omega), b _ _ (by omega) (by omega) (by omega) (by omega), b _ _ (by omega) (by omega) (by omega) (by omega), b _ _ (by omega) (by omega) (by omega) (by omega)⟩
theorem bits_Mul64_ok (hx : U64 x) (hy : U64 y) : bits_Mul64.f x y = some (x * y / 18446744073709551616, x * y % 18446744073709551616) := by
  obtain ⟨⟨a1, a2⟩, ⟨b1, b2⟩, ⟨c1, c2⟩, ⟨d1, d2⟩⟩ := parts_bd hx hy
  have e := mul_parts x y
  obtain ⟨hx0, hx1⟩ := hx; obtain ⟨hy0, hy1⟩ := hy
  unfold bits_Mul64.f
  rw [and_mask hx0 hx1, and_mask hy0 hy1, wrap_u64 (x * y)]
  generalize x / 4294967296 * (y / 4294967296) = p11 at *
  generalize x / 4294967296 * (y % 4294967296) = p10 at *
  generalize x % 4294967296 * (y / 4294967296) = p01 at *
  generalize x % 4294967296 * (y % 4294967296) = p00 at *
  generalize x * y = n at *
  rw [wrap_id (x := p11) ⟨by omega, by omega⟩, wrap_id (x := p10) ⟨by omega, by omega⟩, wrap_id (x := p00) ⟨by omega, by omega⟩, wrap_id (x := p01) ⟨by omega, by omega⟩,
    wrap_id (x := p10 + p00 / 4294967296) ⟨by omega, by omega⟩, and_mask (by omega) (by omega), wrap_id (x := (p10 + p00 / 4294967296) % 4294967296 + p01) ⟨by omega, by omega⟩,
    wrap_id (x := p11 + (p10 + p00 / 4294967296) / 4294967296) ⟨by omega, by omega⟩, wrap_id ⟨by omega, by omega⟩]
  congr 2
  omega
theorem wide_Mul_ok (hx : U64 x) (hy : U64 y) : wide_Mul.f x y = some (x * y / 18446744073709551616, x * y % 18446744073709551616) := by
  unfold wide_Mul.f
  rw [bits_Mul64_ok hx hy]
  rfl
end
section
variable {a0 a1 d : Int}
theorem wide_Div_ok (k : Nat) (hk : 20 ≤ k) (h0 : U64 a0) (h1 : U64 a1) (hd : 0 < d) (hd1 : d < 18446744073709551616) :
    wide_Div.f k a0 a1 d = some (wv a0 a1 / d / 18446744073709551616, wv a0 a1 / d % 18446744073709551616, wv a0 a1 % d, 0) := by
  obtain ⟨r1, r2, r3⟩ := div_rest (n := a0) hd
  have l0 := div_nonneg h0.1 hd
  have l1 := div_le h0.1 hd
  unfold wide_Div.f
  rw [if_neg (by omega), Div64_ok k hk 0 a0 d (by omega) h0 hd1 hd]
  simp only [Option.bind_some, Int.zero_mul, Int.zero_add]
  rw [Div64_ok k hk (a0 % d) a1 d r2 h1 hd1 r3]
  simp only [Option.bind_some]
  obtain ⟨g1, g2⟩ := h1
  obtain ⟨s1, s2, s3⟩ := div_rest (n := a0 % d * 18446744073709551616 + a1) hd
  have q0 := div_nonneg (n := a0 % d * 18446744073709551616 + a1) (by omega) hd
  have q1 : (a0 % d * 18446744073709551616 + a1) / d < 18446744073709551616 := div_lt hd (by omega)
  generalize (a0 % d * 18446744073709551616 + a1) / d = Q at *
  generalize (a0 % d * 18446744073709551616 + a1) % d = R at *
  generalize a0 / d = P at *
  have e : (P * 18446744073709551616 + Q) * d = P * d * 18446744073709551616 + Q * d := by
    rw [Int.add_mul, Int.mul_assoc, Int.mul_comm 18446744073709551616 d, ← Int.mul_assoc]
  obtain ⟨z1, z2⟩ := div_uniq (n := wv a0 a1) (y := d) (q := P * 18446744073709551616 + Q) (by unfold wv; omega) (by unfold wv; omega)
  rw [z1, z2, e]
  unfold wv
  congr 2
  · omega
  · congr 2
    · omega
    · congr 1
      omega
end
/-- A valid limit: Burst, Rate, Per. -/
def VL (b r p : Int) : Prop := 1 ≤ b ∧ b ≤ 1000000000 ∧ 0 ≤ r ∧ r ≤ 1000000000 ∧ 1 ≤ p ∧ p ≤ 1000000000
/-- A valid bucket: its limit, Level, Part, At. -/
def VB (b r p l q t : Int) : Prop := VL b r p ∧ 0 ≤ l ∧ l ≤ b ∧ 0 ≤ q ∧ q < p ∧ (l = b → q = 0) ∧ U64 t
section
variable {b r p l q t s : Int}
theorem CheckLimit_ok (h : VL b r p) : bucket_CheckLimit.f b r p = some 0 := by
  obtain ⟨_, _, _, _, _, _⟩ := h
  unfold bucket_CheckLimit.f
  rw [if_neg (by omega), if_neg (by omega), if_neg (by omega), if_neg (by omega), if_neg (by omega), if_neg (by omega)]
theorem CheckLimit_bad (h : ¬ VL b r p) : bucket_CheckLimit.f b r p = some 8 := by
  unfold bucket_CheckLimit.f
  unfold VL at h
  repeat' split
  all_goals first | rfl | (exfalso; omega)
theorem Check_ok (h : VB b r p l q t) : bucket_Check.f b r p l q t = some 0 := by
  obtain ⟨hl, h1, h2, h3, h4, h5, _⟩ := h
  have hb := hl.1
  have hb' := hl.2.1
  unfold bucket_Check.f
  rw [CheckLimit_ok hl]
  simp only [Option.bind_some, ↓reduceIte]
  rw [if_neg (by omega), wrap64_id (x := b - l) (by omega) (by omega), if_neg (by omega), if_neg (by omega), if_neg (by omega)]
  by_cases c : b - l = 0
  · rw [if_pos c, if_neg (by have := h5 (by omega); omega)]
  · rw [if_neg c]
/-- Level, Part and At behind a refill at t. -/
def fN (r q s t : Int) : Int := (t - s) * r + q
def fL (b r p l q s t : Int) : Int := if t ≤ s then l else if fN r q s t / p ≥ b - l then b else l + fN r q s t / p
def fP (b r p l q s t : Int) : Int := if t ≤ s then q else if fN r q s t / p ≥ b - l then 0 else fN r q s t % p
def fT (s t : Int) : Int := if t ≤ s then s else t
theorem fN_bd (hv : VB b r p l q s) (ht : U64 t) (h : s ≤ t) : 0 ≤ fN r q s t ∧ fN r q s t ≤ 18446744073709551615000000000 + 1000000000 ∧ 0 ≤ (t - s) * r ∧ (t - s) * r ≤ 18446744073709551615000000000 := by
  obtain ⟨⟨_, _, _, _, _, _⟩, _, _, _, _, _, ⟨_, _⟩⟩ := hv
  obtain ⟨_, _⟩ := ht
  have := mul_bd (by omega : 0 ≤ t - s) (by omega : t - s ≤ 18446744073709551615) (by assumption : 0 ≤ r) (by assumption : r ≤ 1000000000)
  unfold fN
  omega
theorem fill_ok (k : Nat) (hk : 20 ≤ k) (hv : VB b r p l q s) (ht : U64 t) : bucket_fill.f k b r p l q s t = some (b, r, p, fL b r p l q s t, fP b r p l q s t, fT s t) := by
  unfold bucket_fill.f fL fP fT
  by_cases c : t ≤ s
  · rw [if_pos c, if_pos c, if_pos c, if_pos c]
  · rw [if_neg c, if_neg c, if_neg c, if_neg c]
    obtain ⟨n0, n1, m0, m1⟩ := fN_bd hv ht (by omega : s ≤ t)
    obtain ⟨⟨b0, b1, r0, r1, p0, p1⟩, l0, l1, q0, q1, _, ⟨s0, s1⟩⟩ := hv
    obtain ⟨t0, t1⟩ := ht
    have ur : U64 r := ⟨by omega, by omega⟩
    have uq : U64 q := ⟨by omega, by omega⟩
    have up : U64 p := ⟨by omega, by omega⟩
    have ud : U64 (t - s) := ⟨by omega, by omega⟩
    have ub : U64 (b - l) := ⟨by omega, by omega⟩
    rw [wrap_id ud, wrap_id ur, wrap_id uq, wrap_id up, wide_Mul_ok ud ur, wide_Of_ok]
    simp only [Option.bind_some]
    rw [wide_Add_ok (U64_hi m0 (by omega)) U64_lo U64_zero uq (by rw [wv_of, wv_zero]; omega), wv_of, wv_zero]
    simp only [Option.bind_some]
    have e : (t - s) * r + q = fN r q s t := rfl
    rw [e, wide_Div_ok k hk (U64_hi n0 (by omega)) U64_lo (by omega) up.2, wv_of]
    simp only [Option.bind_some]
    have d0 := div_nonneg n0 (by omega : 0 < p)
    obtain ⟨e1, e2, e3⟩ := div_rest (n := fN r q s t) (by omega : 0 < p)
    by_cases c2 : fN r q s t / p < 18446744073709551616
    · rw [wide_Small_ok (by omega)]
      simp only [Option.bind_some, ↓reduceIte]
      rw [wrap64_id (x := b - l) (by omega) (by omega), wrap_id ub, show fN r q s t / p % 18446744073709551616 = fN r q s t / p by omega]
      by_cases c3 : fN r q s t / p ≥ b - l
      · rw [if_pos c3, if_pos c3, if_pos c3]
      · rw [if_neg c3, if_neg c3, if_neg c3, wrap64_id (x := fN r q s t / p) (by omega) (by omega), wrap64_id (by omega) (by omega), wrap64_id (by omega) (by omega)]
    · rw [wide_Small_err (by omega)]
      simp only [Option.bind_some]
      rw [if_neg (by decide), if_pos (by omega), if_pos (by omega)]
theorem fT_U64 (hs : U64 s) (ht : U64 t) : U64 (fT s t) := by unfold fT; split <;> assumption
theorem fill_valid (hv : VB b r p l q s) (ht : U64 t) : VB b r p (fL b r p l q s t) (fP b r p l q s t) (fT s t) := by
  have hv0 := hv
  obtain ⟨hl, l0, l1, q0, q1, hf, hs⟩ := hv
  refine ⟨hl, ?_⟩
  have hT := fT_U64 hs ht
  obtain ⟨b0, b1, r0, r1, p0, p1⟩ := hl
  by_cases c : t ≤ s
  · unfold fL fP
    rw [if_pos c, if_pos c]
    exact ⟨l0, l1, q0, q1, hf, hT⟩
  · obtain ⟨n0, n1, m0, m1⟩ := fN_bd hv0 ht (by omega : s ≤ t)
    unfold fL fP
    rw [if_neg c, if_neg c]
    obtain ⟨e1, e2, e3⟩ := div_rest (n := fN r q s t) (by omega : 0 < p)
    have d0 := div_nonneg n0 (by omega : 0 < p)
    by_cases c3 : fN r q s t / p ≥ b - l
    · rw [if_pos c3, if_pos c3]
      exact ⟨by omega, by omega, by omega, by omega, fun _ => rfl, hT⟩
    · rw [if_neg c3, if_neg c3]
      exact ⟨by omega, by omega, e2, e3, fun h => by omega, hT⟩
theorem Refill_ok (k : Nat) (hk : 20 ≤ k) (hv : VB b r p l q s) (ht : U64 t) : bucket_Refill.f k b r p l q s t = some (b, r, p, fL b r p l q s t, fP b r p l q s t, fT s t, 0) := by
  unfold bucket_Refill.f
  rw [Check_ok hv]
  simp only [Option.bind_some, ↓reduceIte]
  rw [fill_ok k hk hv ht]
  rfl
end
section
variable {b r p l q t s c : Int}
theorem ref_CheckLimit_ok (h : VL b r p) : spigotref03_CheckLimit.f b r p = some 0 := CheckLimit_ok h
theorem ref_CheckLimit_bad (h : ¬ VL b r p) : spigotref03_CheckLimit.f b r p = some 8 := CheckLimit_bad h
theorem ref_Check_ok (h : VB b r p l q s) : spigotref03_Check.f b r p l q s = some 0 := by
  obtain ⟨hl, h1, h2, h3, h4, h5, _⟩ := h
  unfold spigotref03_Check.f
  rw [ref_CheckLimit_ok hl]
  simp only [Option.bind_some, ↓reduceIte]
  rw [if_neg (by omega), if_neg (by omega), if_neg (by omega), if_neg (by omega)]
  by_cases c : l = b
  · rw [if_pos c, if_pos (h5 c)]
  · rw [if_neg c]
theorem ref_Check_bad (ht : U64 s) (h : ¬ VB b r p l q s) : spigotref03_Check.f b r p l q s = some 8 := by
  unfold spigotref03_Check.f
  by_cases hv : VL b r p
  · rw [ref_CheckLimit_ok hv]
    simp only [Option.bind_some, ↓reduceIte]
    have h' : ¬ (0 ≤ l ∧ l ≤ b ∧ 0 ≤ q ∧ q < p ∧ (l = b → q = 0)) := fun g => h ⟨hv, g.1, g.2.1, g.2.2.1, g.2.2.2.1, g.2.2.2.2, ht⟩
    repeat' split
    all_goals first | rfl | (exfalso; omega)
  · rw [ref_CheckLimit_bad hv]
    simp
end
/-- A lease: the bucket in the middle, the chunk, what is held. -/
structure LS where
  (b r p l q t c : Int)
  h : List Int
abbrev Op42 := S31
def lVal (s : LS) : Prop := VB s.b s.r s.p s.l s.q s.t ∧ 1 ≤ s.c ∧ s.c ≤ 1000000000 ∧ 1 ≤ s.h.length ∧ s.h.length ≤ 12 ∧ ∀ x ∈ s.h, 0 ≤ x ∧ x ≤ 1000000000000
def lR (s : LS) : Prop := I64 s.b ∧ I64 s.r ∧ I64 s.p ∧ I64 s.l ∧ I64 s.q ∧ U64 s.t ∧ I64 s.c ∧ ∀ x ∈ s.h, I64 x
/-- A valid operation. -/
def vOp (o : Op42) : Prop := 1 ≤ o.f0 ∧ o.f0 ≤ 4 ∧ 0 ≤ o.f1 ∧ 0 ≤ o.f3 ∧ o.f3 ≤ 1000000000 ∧ (o.f0 = 2 ∨ o.f3 = 0)
instance : DecidablePred vOp := fun o => by unfold vOp; infer_instance
def hBad (x : Int) : Prop := x < 0 ∨ x > 1000000000000
theorem held_idx (cs : List Int) (hn : cs.length ≤ 1000000) : ∀ (d j k : Nat), j + d = cs.length → d + 2 ≤ k → ∃ i : Int, slices_IndexFunc_int64_c44.l0 k cs (cs.length : Int) (j : Int) = some i ∧ (0 ≤ i ↔ ∃ c ∈ cs.drop j, hBad c) := by
  intro d
  induction d with
  | zero =>
    intro j k hj hk
    obtain ⟨k, rfl⟩ : ∃ m, k = m + 1 := ⟨k - 1, by omega⟩
    simp only [slices_IndexFunc_int64_c44.l0]
    rw [if_neg (by omega), List.drop_eq_nil_of_le (by omega)]
    exact ⟨-1, rfl, fun h => absurd h (by decide), fun ⟨_, h, _⟩ => by cases h⟩
  | succ d ih =>
    intro j k hj hk
    obtain ⟨k, rfl⟩ : ∃ m, k = m + 1 := ⟨k - 1, by omega⟩
    have hjl : j < cs.length := by omega
    simp only [slices_IndexFunc_int64_c44.l0]
    rw [if_pos (by omega), if_pos (by omega), if_pos (by omega), rd_at hjl, List.drop_eq_getElem_cons hjl]
    have e1 : ∃ b, lease_Check_1.f cs[j] = some b ∧ (b = true ↔ hBad cs[j]) := by
      unfold lease_Check_1.f hBad
      by_cases c : cs[j] < 0
      · rw [if_pos c]; exact ⟨_, rfl, fun _ => .inl c, fun _ => rfl⟩
      · rw [if_neg c]; exact ⟨_, rfl, fun h => .inr (of_decide_eq_true h), fun h => decide_eq_true (by omega)⟩
    obtain ⟨b, e1, e2⟩ := e1
    rw [e1]
    simp only [Option.bind_some]
    by_cases c : b = true
    · rw [if_pos c]
      exact ⟨j, rfl, fun _ => ⟨_, List.mem_cons_self, e2.1 c⟩, fun _ => by omega⟩
    · rw [if_neg c, wj (by omega)]
      obtain ⟨i, e, h⟩ := ih (j + 1) k (by omega) (by omega)
      refine ⟨i, e, h.trans ⟨fun ⟨x, hx, h0⟩ => ⟨x, List.mem_cons_of_mem _ hx, h0⟩, fun ⟨x, hx, h0⟩ => ?_⟩⟩
      rcases List.mem_cons.1 hx with g | g
      · rw [g] at h0
        exact absurd (e2.2 h0) c
      · exact ⟨x, g, h0⟩
theorem held_any (cs : List Int) (hn : cs.length ≤ 1000000) (k : Nat) (hk : cs.length + 2 ≤ k) (z : Int) : ∃ b, slices_ContainsFunc_int64_c44.f k cs z = some b ∧ (b = true ↔ ∃ c ∈ cs, hBad c) := by
  obtain ⟨i, e, h⟩ := held_idx cs hn cs.length 0 k (by omega) (by omega)
  unfold slices_ContainsFunc_int64_c44.f slices_IndexFunc_int64_c44.f
  rw [show (0 : Int) = ((0 : Nat) : Int) from rfl, e]
  rw [List.drop_zero] at h
  exact ⟨_, rfl, by rw [decide_eq_true_iff]; exact h⟩
theorem lCheck_ok {s : LS} (h : lVal s) (k : Nat) (hk : 40 ≤ k) : lease_Check.f k s.b s.r s.p s.l s.q s.t s.c s.h = some 0 := by
  obtain ⟨hb, c0, c1, n0, n1, hh⟩ := h
  obtain ⟨k, rfl⟩ : ∃ m, k = m + 1 := ⟨k - 1, by omega⟩
  unfold lease_Check.f
  rw [Check_ok hb]
  simp only [Option.bind_some, ↓reduceIte]
  rw [if_neg (by omega), if_neg (by omega), if_neg (by omega), decide_eq_false (by omega)]
  simp only [lease_Check.j0]
  obtain ⟨b, e, g⟩ := held_any s.h (by omega) k (by omega) 0
  rw [if_neg (by decide), e]
  have : ¬ b = true := fun hb => by
    obtain ⟨x, hx, hx2⟩ := g.1 hb
    have := hh x hx
    unfold hBad at hx2
    omega
  simp only [Option.bind_some]
  rw [if_neg this]
theorem rCheck_loop (x0 x1 x2 x3 x4 x5 x6 : Int) (cs : List Int) (hn : cs.length ≤ 1000000) : ∀ (d j k : Nat), j + d = cs.length → d + 2 ≤ k →
    ((∀ x ∈ cs.drop j, 0 ≤ x ∧ x ≤ 1000000000000) → spigotref42_Check.l0 k (j : Int) x0 x1 x2 x3 x4 x5 x6 cs = some 0) ∧ (¬ (∀ x ∈ cs.drop j, 0 ≤ x ∧ x ≤ 1000000000000) → spigotref42_Check.l0 k (j : Int) x0 x1 x2 x3 x4 x5 x6 cs = some 8) := by
  intro d
  induction d with
  | zero =>
    intro j k hj hk
    obtain ⟨k, rfl⟩ : ∃ m, k = m + 1 := ⟨k - 1, by omega⟩
    simp only [spigotref42_Check.l0]
    rw [if_neg (by omega), List.drop_eq_nil_of_le (by omega)]
    exact ⟨fun _ => rfl, fun h => absurd (fun x hx => by cases hx) h⟩
  | succ d ih =>
    intro j k hj hk
    obtain ⟨k, rfl⟩ : ∃ m, k = m + 1 := ⟨k - 1, by omega⟩
    have hjl : j < cs.length := by omega
    obtain ⟨i1, i2⟩ := ih (j + 1) k (by omega) (by omega)
    simp only [spigotref42_Check.l0]
    rw [if_pos (by omega), if_pos (by omega), rd_at hjl, wj (by omega), List.drop_eq_getElem_cons hjl]
    by_cases c1 : cs[j] < 0
    · rw [if_pos c1]
      exact ⟨fun h => by have := h _ List.mem_cons_self; omega, fun _ => rfl⟩
    · rw [if_neg c1]
      by_cases c2 : cs[j] > 1000000000000
      · rw [if_pos c2]
        exact ⟨fun h => by have := h _ List.mem_cons_self; omega, fun _ => rfl⟩
      · rw [if_neg c2]
        refine ⟨fun h => i1 fun x hx => h x (List.mem_cons_of_mem _ hx), fun h => i2 fun g => h fun x hx => ?_⟩
        rcases List.mem_cons.1 hx with e | e
        · rw [e]; omega
        · exact g x e
theorem rCheck_ok {s : LS} (h : lVal s) (k : Nat) (hk : 40 ≤ k) : spigotref42_Check.f k s.b s.r s.p s.l s.q s.t s.c s.h = some 0 := by
  obtain ⟨hb, c0, c1, n0, n1, hh⟩ := h
  obtain ⟨k, rfl⟩ : ∃ m, k = m + 1 := ⟨k - 1, by omega⟩
  unfold spigotref42_Check.f
  rw [ref_Check_ok hb]
  simp only [Option.bind_some, ↓reduceIte]
  rw [if_neg (by omega), if_neg (by omega), if_neg (by omega), decide_eq_false (by omega)]
  simp only [spigotref42_Check.j0]
  rw [if_neg (by decide), show (0 : Int) = ((0 : Nat) : Int) from rfl]
  exact (rCheck_loop _ _ _ _ _ _ _ s.h (by omega) s.h.length 0 k (by omega) (by omega)).1 (by rw [List.drop_zero]; exact hh)
theorem rCheck_bad {s : LS} (hr : lR s) (hn : s.h.length ≤ 30) (h : ¬ lVal s) (k : Nat) (hk : 40 ≤ k) : spigotref42_Check.f k s.b s.r s.p s.l s.q s.t s.c s.h = some 8 := by
  obtain ⟨k, rfl⟩ : ∃ m, k = m + 1 := ⟨k - 1, by omega⟩
  obtain ⟨_, _, _, rl, _, rt, _, _⟩ := hr
  have j8 : ∀ x0 x1 x2 x3 x4 x5 x6 x7, spigotref42_Check.j0 (k + 1) true x0 x1 x2 x3 x4 x5 x6 x7 = some 8 := fun _ _ _ _ _ _ _ _ => by simp only [spigotref42_Check.j0, ↓reduceIte]
  unfold spigotref42_Check.f
  by_cases hb : VB s.b s.r s.p s.l s.q s.t
  · rw [ref_Check_ok hb]
    simp only [Option.bind_some, ↓reduceIte]
    by_cases c1 : s.c < 1
    · rw [if_pos c1, j8]
    · rw [if_neg c1]
      by_cases c2 : s.c > 1000000000
      · rw [if_pos c2, j8]
      · rw [if_neg c2]
        by_cases c3 : (s.h.length : Int) < 1
        · rw [if_pos c3, j8]
        · rw [if_neg c3]
          by_cases c4 : (s.h.length : Int) > 12
          · rw [decide_eq_true c4, j8]
          · rw [decide_eq_false c4]
            simp only [spigotref42_Check.j0]
            rw [if_neg (by decide), show (0 : Int) = ((0 : Nat) : Int) from rfl]
            refine (rCheck_loop _ _ _ _ _ _ _ s.h (by omega) s.h.length 0 k (by omega) (by omega)).2 fun g => h ⟨hb, by omega, by omega, by omega, by omega, ?_⟩
            rw [List.drop_zero] at g
            exact g
  · rw [ref_Check_bad rt hb]
    simp only [Option.bind_some]
    rw [if_neg (by decide), j8]
/-! #### operations -/
theorem read_ok {o : Op42} (h : vOp o) (k : Nat) (hk : 1 ≤ k) : lease_read.f k o.f0 o.f1 o.f2 o.f3 = some (o.f0, o.f1, o.f3) := by
  obtain ⟨k, rfl⟩ : ∃ m, k = m + 1 := ⟨k - 1, by omega⟩
  obtain ⟨a0, a1, b0, n0, n1, hn⟩ := h
  unfold lease_read.f
  rw [if_neg (by omega), if_neg (by omega), if_neg (by omega)]
  have key : ∀ b, b = false → lease_read.j0 (k + 1) b o.f0 o.f1 o.f2 o.f3 = some (o.f0, o.f1, o.f3) := by
    intro b hb
    rw [hb]
    simp only [lease_read.j0]
    rw [if_neg (by decide)]
    by_cases c1 : o.f0 = 1
    · rw [if_pos c1, c1, show o.f3 = 0 by omega]
    · rw [if_neg c1]
      by_cases c2 : o.f0 = 2
      · rw [if_pos c2, c2]
      · rw [if_neg c2]
        by_cases c3 : o.f0 = 3
        · rw [if_pos c3, c3, show o.f3 = 0 by omega]
        · rw [if_neg c3, if_pos (by omega), show o.f0 = 4 by omega, show o.f3 = 0 by omega]
  by_cases c : o.f3 > 0
  · rw [if_pos c]
    exact key _ (by rw [bne_eq_false_iff_eq]; omega)
  · rw [if_neg c]
    exact key _ rfl
theorem Valid_eq {o : Op42} : spigotref42_Valid.f o.f0 o.f1 o.f2 o.f3 = some (decide (vOp o)) := by
  unfold spigotref42_Valid.f
  by_cases c1 : o.f0 < 1
  · rw [if_pos c1, decide_eq_false (p := vOp o) (fun g => by unfold vOp at g; omega)]
  · rw [if_neg c1]
    by_cases c2 : o.f0 > 4
    · rw [if_pos c2, decide_eq_false (p := vOp o) (fun g => by unfold vOp at g; omega)]
    · rw [if_neg c2]
      by_cases c3 : o.f1 < 0
      · rw [if_pos c3, decide_eq_false (p := vOp o) (fun g => by unfold vOp at g; omega)]
      · rw [if_neg c3]
        by_cases c4 : o.f3 < 0
        · rw [if_pos c4, decide_eq_false (p := vOp o) (fun g => by unfold vOp at g; omega)]
        · rw [if_neg c4]
          by_cases c5 : o.f3 > 1000000000
          · rw [if_pos c5, decide_eq_false (p := vOp o) (fun g => by unfold vOp at g; omega)]
          · rw [if_neg c5]
            by_cases c6 : o.f0 = 2
            · rw [if_pos c6, decide_eq_true (p := vOp o) (by unfold vOp; omega)]
            · rw [if_neg c6]
              by_cases c7 : o.f3 = 0
              · rw [decide_eq_true (p := vOp o) (by unfold vOp; omega), show (o.f3 == 0) = true from beq_iff_eq.2 c7]
              · rw [decide_eq_false (p := vOp o) (fun g => by unfold vOp at g; omega), show (o.f3 == 0) = false from beq_eq_false_iff_ne.2 c7]
/-! #### a step -/
def lFill (s : LS) (t : Int) : LS := { s with l := fL s.b s.r s.p s.l s.q s.t t, q := fP s.b s.r s.p s.l s.q s.t t, t := fT s.t t }
def held (s : LS) (i : Int) : Int := rd s.h i
def chunk (s : LS) (i : Int) : Int := mn (mn s.c s.l) (1000000000000 - held s i)
/-- An operation on a lease that is refilled. -/
def lAct (s : LS) (o : Op42) : LS × Int :=
  if o.f0 = 1 then ({ s with l := s.l - chunk s o.f1, h := s.h.set o.f1.toNat (held s o.f1 + chunk s o.f1) }, chunk s o.f1)
  else if o.f0 = 2 then (if held s o.f1 < o.f3 then (s, -1) else ({ s with h := s.h.set o.f1.toNat (held s o.f1 - o.f3) }, o.f3))
  else if o.f0 = 3 then ({ s with l := mn s.b (s.l + held s o.f1), q := if mn s.b (s.l + held s o.f1) = s.b then 0 else s.q, h := s.h.set o.f1.toNat 0 }, held s o.f1)
  else ({ s with h := s.h.set o.f1.toNat 0 }, held s o.f1)
def lStep (s : LS) (o : Op42) : LS × Int := lAct (lFill s o.f2) o
theorem held_mem {s : LS} {i : Int} (h0 : 0 ≤ i) (h1 : i < s.h.length) : held s i ∈ s.h := by
  obtain ⟨j, rfl⟩ : ∃ j : Nat, i = j := ⟨i.toNat, by omega⟩
  unfold held
  rw [rd_at (by omega)]
  exact List.getElem_mem _
theorem mem_set' {l : List Int} {i : Nat} {a x : Int} (h : x ∈ l.set i a) : x ∈ l ∨ x = a := List.mem_or_eq_of_mem_set h
theorem lFill_val {s : LS} {t : Int} (h : lVal s) (ht : U64 t) : lVal (lFill s t) := ⟨fill_valid h.1 ht, h.2⟩
theorem chunk_bd {s : LS} {i : Int} (h : lVal s) (h0 : 0 ≤ i) (h1 : i < s.h.length) : 0 ≤ chunk s i ∧ chunk s i ≤ s.c ∧ chunk s i ≤ s.l ∧ chunk s i ≤ 1000000000000 - held s i ∧ 0 ≤ held s i := by
  have hh := h.2.2.2.2.2 _ (held_mem h0 h1)
  have hl := h.1.2.1
  have hc := h.2.1
  unfold chunk mn
  split <;> split <;> omega
theorem lAct_val {s : LS} {o : Op42} (h : lVal s) (ho : vOp o) (hi : o.f1 < s.h.length) : lVal (lAct s o).1 ∧ (lAct s o).1.h.length = s.h.length := by
  obtain ⟨a0, a1, b0, n0, n1, hn⟩ := ho
  obtain ⟨k0, k1, k2, k3, k4⟩ := chunk_bd h b0 hi
  have hh := h.2.2.2.2.2 _ (held_mem b0 hi)
  obtain ⟨⟨hv, l0, l1, q0, q1, hf, hu⟩, c0, c1, m0, m1, hx⟩ := h
  have hs : ∀ a, 0 ≤ a → a ≤ 1000000000000 → ∀ x ∈ s.h.set o.f1.toNat a, 0 ≤ x ∧ x ≤ 1000000000000 := by
    intro a h0 h1 x hm
    rcases mem_set' hm with g | g
    · exact hx x g
    · omega
  have hb := hv.1
  have hp := hv.2.2.2.2.1
  unfold lAct
  split
  · refine ⟨⟨⟨hv, by simp only; omega, by simp only; omega, q0, q1, fun e => hf (by simp only at e; omega), hu⟩, c0, c1, by simp only [List.length_set]; omega, by simp only [List.length_set]; omega, hs _ (by omega) (by omega)⟩, by simp only [List.length_set]⟩
  · split
    · split
      · exact ⟨⟨⟨hv, l0, l1, q0, q1, hf, hu⟩, c0, c1, m0, m1, hx⟩, rfl⟩
      · exact ⟨⟨⟨hv, l0, l1, q0, q1, hf, hu⟩, c0, c1, by simp only [List.length_set]; omega, by simp only [List.length_set]; omega, hs _ (by omega) (by omega)⟩, by simp only [List.length_set]⟩
    · split
      · have e1 : 0 ≤ mn s.b (s.l + held s o.f1) ∧ mn s.b (s.l + held s o.f1) ≤ s.b := by unfold mn; split <;> omega
        refine ⟨⟨⟨hv, e1.1, e1.2, ?_, ?_, ?_, hu⟩, c0, c1, by simp only [List.length_set]; omega, by simp only [List.length_set]; omega, hs _ (by omega) (by omega)⟩, by simp only [List.length_set]⟩
        · simp only; split <;> omega
        · simp only; split <;> omega
        · simp only; intro e; rw [if_pos e]
      · exact ⟨⟨⟨hv, l0, l1, q0, q1, hf, hu⟩, c0, c1, by simp only [List.length_set]; omega, by simp only [List.length_set]; omega, hs _ (by omega) (by omega)⟩, by simp only [List.length_set]⟩
theorem lStep_val {s : LS} {o : Op42} (h : lVal s) (ho : vOp o) (ht : U64 o.f2) (hi : o.f1 < s.h.length) : lVal (lStep s o).1 ∧ (lStep s o).1.h.length = s.h.length :=
  lAct_val (lFill_val h ht) ho hi
/-- Results as the functions tell them. -/
def flat (r : LS × Int) : Int × Int × Int × Int × Int × Int × Int × List Int × Int × Int := (r.1.b, r.1.r, r.1.p, r.1.l, r.1.q, r.1.t, r.1.c, r.1.h, r.2, 0)
theorem cloneI_ok {l : List Int} (h : l.length ≤ 1000000) : slices_Clone_int64.f l = some l := by
  unfold slices_Clone_int64.f
  simp only [Option.bind_some, List.length_nil, List.nil_append]
  rw [if_pos (by omega)]
theorem Step_ok {s : LS} {o : Op42} (h : lVal s) (ho : vOp o) (ht : U64 o.f2) (hi : o.f1 < s.h.length) (k : Nat) (hk : 40 ≤ k) :
    lease_Step.f k s.b s.r s.p s.l s.q s.t s.c s.h o.f0 o.f1 o.f2 o.f3 = some (flat (lStep s o)) := by
  have hv := lFill_val h ht
  have bd := chunk_bd hv ho.2.2.1 hi
  have hh := hv.2.2.2.2.2 _ (held_mem (s := lFill s o.f2) ho.2.2.1 hi)
  obtain ⟨⟨hvl, l0, l1, _⟩, c0, c1, m0, m1, _⟩ := hv
  have hb := hvl.2.1
  obtain ⟨a0, a1, b0, n0, n1, hn⟩ := id ho
  unfold lease_Step.f
  rw [lCheck_ok h k hk]
  simp only [Option.bind_some, ↓reduceIte]
  rw [read_ok ho k (by omega)]
  simp only [Option.bind_some]
  unfold lease_take_host.f
  rw [if_neg (by omega), if_neg (by omega)]
  simp only [Option.bind_some]
  rw [if_neg (by omega), Refill_ok k (by omega) h.1 ht, cloneI_ok (by have := h.2.2.2.2.1; omega)]
  simp only [Option.bind_some, ↓reduceIte]
  rw [if_pos b0, if_pos hi]
  unfold lStep lAct
  unfold chunk held lFill at *
  simp only at *
  by_cases d1 : o.f0 = 1
  · rw [if_pos d1, if_pos d1]
    unfold flat
    simp only
    have w1 : wrap64 (1000000000000 - rd s.h o.f1) = 1000000000000 - rd s.h o.f1 := wrap64_id (by omega) (by omega)
    rw [w1, wrap64_id (x := _ - mn _ _) (by omega) (by omega), wrap64_id (x := _ + mn _ _) (by omega) (by omega)]
  · rw [if_neg d1, if_neg d1]
    by_cases d2 : o.f0 = 2
    · rw [if_pos d2, if_pos d2]
      by_cases d : rd s.h o.f1 < o.f3
      · rw [if_pos d, if_pos d]
        rfl
      · rw [if_neg d, if_neg d, wrap64_id (x := _ - o.f3) (by omega) (by omega)]
        rfl
    · rw [if_neg d2, if_neg d2]
      by_cases d3 : o.f0 = 3
      · rw [if_pos d3, if_pos d3, wrap64_id (x := fL s.b s.r s.p s.l s.q s.t o.f2 + rd s.h o.f1) (by omega) (by omega)]
        unfold flat
        simp only
        by_cases e : mn s.b (fL s.b s.r s.p s.l s.q s.t o.f2 + rd s.h o.f1) = s.b
        · rw [if_pos e, if_pos e]
        · rw [if_neg e, if_neg e]
      · rw [if_neg d3, if_neg d3]
        rfl
def hsum (l : List Int) : Int := l.foldr (· + ·) 0
theorem hsum_nil : hsum [] = 0 := rfl
theorem hsum_cons (x : Int) (l : List Int) : hsum (x :: l) = x + hsum l := rfl
theorem hsum_bd : ∀ {l : List Int}, (∀ x ∈ l, 0 ≤ x ∧ x ≤ 1000000000000) → 0 ≤ hsum l ∧ hsum l ≤ 1000000000000 * l.length
  | [], _ => by simp [hsum]
  | x :: l, h => by
    have h1 := h x List.mem_cons_self
    have h2 := hsum_bd (l := l) fun y hy => h y (List.mem_cons_of_mem _ hy)
    rw [hsum_cons, List.length_cons]
    omega
theorem hsum_set : ∀ {l : List Int} {i : Nat} (a : Int) (h : i < l.length), hsum (l.set i a) = hsum l - l[i] + a
  | x :: l, 0, a, _ => by rw [List.set_cons_zero, hsum_cons, hsum_cons]; simp; omega
  | x :: l, i + 1, a, h => by
    rw [List.set_cons_succ, hsum_cons, hsum_cons, hsum_set a (by simpa using h)]
    simp
    omega
theorem Out_loop (cs : List Int) (hn : cs.length ≤ 12) (hx : ∀ x ∈ cs, 0 ≤ x ∧ x ≤ 1000000000000) : ∀ (d j k : Nat) (a : Int), j + d = cs.length → d + 2 ≤ k → 0 ≤ a → a ≤ 1000000000000 * j → lease_Out.l0 k a cs (cs.length : Int) (j : Int) = some (a + hsum (cs.drop j), 0) := by
  intro d
  induction d with
  | zero =>
    intro j k a hj hk h0 h1
    obtain ⟨k, rfl⟩ : ∃ m, k = m + 1 := ⟨k - 1, by omega⟩
    simp only [lease_Out.l0]
    rw [if_neg (by omega), List.drop_eq_nil_of_le (by omega), hsum_nil, Int.add_zero]
  | succ d ih =>
    intro j k a hj hk h0 h1
    obtain ⟨k, rfl⟩ : ∃ m, k = m + 1 := ⟨k - 1, by omega⟩
    have hjl : j < cs.length := by omega
    have hb := hx _ (List.getElem_mem hjl)
    simp only [lease_Out.l0]
    rw [if_pos (by omega), if_pos (by omega), if_pos (by omega), rd_at hjl, wj (by omega), wrap64_id (by omega) (by omega), ih (j + 1) k _ (by omega) (by omega) (by omega) (by omega), List.drop_eq_getElem_cons hjl, hsum_cons]
    congr 2
    omega
theorem Out_ok {s : LS} (h : lVal s) (k : Nat) (hk : 40 ≤ k) : lease_Out.f k s.b s.r s.p s.l s.q s.t s.c s.h = some (hsum s.h, 0) := by
  unfold lease_Out.f
  rw [lCheck_ok h k hk]
  simp only [Option.bind_some, ↓reduceIte]
  have e := Out_loop s.h h.2.2.2.2.1 h.2.2.2.2.2 s.h.length 0 k 0 (by omega) (by have := h.2.2.2.2.1; omega) (by omega) (by omega)
  rw [List.drop_zero, Int.zero_add] at e
  exact e
theorem great_eq (a0 a1 a2 a3 a4 a5 a6 : Int) (h : List Int) (l : List Op42) : ∃ b, spigotref42_Great.f a0 a1 a2 a3 a4 a5 a6 h l = some b ∧ (b = false → h.length ≤ 30 ∧ (l.length ≤ 30 ∨ 100 < l.length ∧ l.length ≤ 150)) := by
  unfold spigotref42_Great.f
  by_cases c1 : (h.length : Int) > 30
  · rw [if_pos c1]; exact ⟨_, rfl, fun h => by cases h⟩
  · rw [if_neg c1]
    by_cases c2 : (l.length : Int) > 30
    · rw [if_pos c2]
      by_cases c3 : (l.length : Int) ≤ 100
      · rw [if_pos c3]; exact ⟨_, rfl, fun h => by cases h⟩
      · rw [if_neg c3]; exact ⟨_, rfl, fun h => by have := of_decide_eq_false h; omega⟩
    · rw [if_neg c2]; exact ⟨_, rfl, fun h => by have := of_decide_eq_false h; omega⟩
set_option maxRecDepth 100000 in
theorem alive42_ : spigotlaw42_alive.f 100 = some true := by kernel_rfl
theorem alive42 (k : Nat) (hk : 100 ≤ k) : spigotlaw42_alive.f k = some true := up_ (fun k => spigotlaw42_alive.mono k) alive42_ k hk
theorem lFill_id {s : LS} {t : Int} (h : t ≤ s.t) : lFill s t = s := by
  unfold lFill fL fP fT
  rw [if_pos h, if_pos h, if_pos h]
/-- What is held behind an operation: but for the host's part it is what was held. -/
theorem lAct_h (s : LS) (o : Op42) : (lAct s o).1.h = s.h ∨ ∃ a, (lAct s o).1.h = s.h.set o.f1.toNat a := by
  unfold lAct
  split
  · exact .inr ⟨_, rfl⟩
  · split
    · split
      · exact .inl rfl
      · exact .inr ⟨_, rfl⟩
    · split
      · exact .inr ⟨_, rfl⟩
      · exact .inr ⟨_, rfl⟩
theorem lAct_tc (s : LS) (o : Op42) : (lAct s o).1.t = s.t ∧ (lAct s o).1.c = s.c := by
  unfold lAct
  split
  · exact ⟨rfl, rfl⟩
  · split
    · split <;> exact ⟨rfl, rfl⟩
    · split <;> exact ⟨rfl, rfl⟩
theorem rd_set_ne {l : List Int} {i j : Nat} {a : Int} (h : i ≠ j) : rd (l.set i a) (j : Int) = rd l (j : Int) := by
  unfold rd
  rw [List.getD_eq_getElem?_getD, List.getD_eq_getElem?_getD, Int.toNat_natCast, List.getElem?_set_ne h]
theorem hsum_put {l : List Int} {i : Int} (a : Int) (h0 : 0 ≤ i) (h1 : i < l.length) : hsum (l.set i.toNat a) = hsum l - rd l i + a := by
  obtain ⟨j, rfl⟩ : ∃ j : Nat, i = j := ⟨i.toNat, by omega⟩
  rw [Int.toNat_natCast, hsum_set a (by omega), rd_at (by omega)]
theorem makes_loop (x5 : Bool) (x7 x9 x11 : Int) (y0 y1 y2 y3 y4 y5 y6 : Int) (h : List Int) (o0 o1 o2 o3 z0 z1 z2 z3 z4 z5 z6 : Int) (g : List Int) (hn : h.length ≤ 1000) (hg : g.length = h.length) (hs : ∀ j : Nat, (j : Int) ≠ o1 → rd g (j : Int) = rd h (j : Int)) : ∀ (d j k : Nat), j + d = h.length → d + 1 ≤ k →
    spigotlaw42_LeaseMakes.l0 k x5 x7 x9 x11 (j : Int) y0 y1 y2 y3 y4 y5 y6 h o0 o1 o2 o3 z0 z1 z2 z3 z4 z5 z6 g = spigotlaw42_LeaseMakes.l0 1 x5 x7 x9 x11 (h.length : Int) y0 y1 y2 y3 y4 y5 y6 h o0 o1 o2 o3 z0 z1 z2 z3 z4 z5 z6 g := by
  intro d
  induction d with
  | zero =>
    intro j k hj hk
    obtain ⟨k, rfl⟩ : ∃ m, k = m + 1 := ⟨k - 1, by omega⟩
    obtain rfl : j = h.length := by omega
    simp only [spigotlaw42_LeaseMakes.l0]
    simp only [Int.lt_irrefl, ↓reduceIte]
  | succ d ih =>
    intro j k hj hk
    obtain ⟨k, rfl⟩ : ∃ m, k = m + 1 := ⟨k - 1, by omega⟩
    rw [← ih (j + 1) k (by omega) (by omega)]
    rw [spigotlaw42_LeaseMakes.l0]
    rw [if_pos (by omega), wj (by omega)]
    by_cases c : (j : Int) = o1
    · rw [if_pos c]
    · rw [if_neg c, if_pos (by omega), if_pos (by omega), if_pos (hs j c)]
theorem LeaseMakes_pure (a0 a1 a2 a3 a4 a5 a6 : Int) (h : List Int) (o0 o1 o2 o3 : Int) (w0 : I64 a0) (w1 : I64 a1) (w2 : I64 a2) (w3 : I64 a3) (w4 : I64 a4) (w5 : U64 a5) (w6 : I64 a6) (hm : h.length ≤ maxLen) (hh : ∀ y ∈ h, I64 y) (p0 : U8 o0) (p1 : I64 o1) (p2 : U64 o2) (p3 : I64 o3) :
    ∃ k, spigotlaw42_LeaseMakes.f k a0 a1 a2 a3 a4 a5 a6 h o0 o1 o2 o3 = some true := by
  refine ⟨301, ?_⟩
  have fin : ∀ x0 x1 x2 x3 x4 x5 x6 x7 x8 x9 x10 x11, spigotlaw42_LeaseMakes.j0 301 true true x0 x1 x2 x3 x4 x5 x6 x7 x8 x9 x10 x11 = some true := fun _ _ _ _ _ _ _ _ _ _ _ _ => by simp only [spigotlaw42_LeaseMakes.j0, ↓reduceIte]
  unfold spigotlaw42_LeaseMakes.f
  rw [alive42 301 (by omega)]
  obtain ⟨b, e, g⟩ := great_eq a0 a1 a2 a3 a4 a5 a6 h []
  simp only [Option.bind_some]
  rw [e]
  simp only [Option.bind_some]
  cases b with
  | true => rw [if_pos rfl, fin]
  | false =>
    obtain ⟨g1, _⟩ := g rfl
    rw [if_neg (by decide)]
    have hR : lR ⟨a0, a1, a2, a3, a4, a5, a6, h⟩ := ⟨w0, w1, w2, w3, w4, w5, w6, hh⟩
    by_cases hv : lVal ⟨a0, a1, a2, a3, a4, a5, a6, h⟩
    · have ec := rCheck_ok hv 301 (by omega)
      have ev := Valid_eq (o := ⟨o0, o1, o2, o3⟩)
      simp only at ec ev
      rw [ec]
      simp only [Option.bind_some, ↓reduceIte]
      rw [ev]
      simp only [Option.bind_some]
      by_cases c1 : vOp ⟨o0, o1, o2, o3⟩
      · rw [if_pos (decide_eq_true c1)]
        by_cases c2 : o1 ≥ (h.length : Int)
        · rw [if_pos c2, fin]
        · rw [if_neg c2]
          simp only [spigotlaw42_LeaseMakes.j0]
          rw [if_neg (by decide)]
          have c1' : vOp ⟨o0, o1, mn o2 a5, o3⟩ := c1
          have ht : U64 (mn o2 a5) := by unfold mn; split <;> assumption
          have hle : mn o2 a5 ≤ a5 := by unfold mn; split <;> omega
          have e1 := Step_ok hv c1' ht (by simp only; omega) 300 (by omega)
          have eid : lStep ⟨a0, a1, a2, a3, a4, a5, a6, h⟩ ⟨o0, o1, mn o2 a5, o3⟩ = lAct ⟨a0, a1, a2, a3, a4, a5, a6, h⟩ ⟨o0, o1, mn o2 a5, o3⟩ := by
            unfold lStep
            rw [lFill_id (by simp only; exact hle)]
          have hv2 := (lStep_val hv c1' ht (by simp only; omega))
          rw [eid] at e1 hv2
          simp only at e1
          rw [e1]
          have e2 := Out_ok hv 300 (by omega)
          have e3 := Out_ok hv2.1 300 (by omega)
          simp only at e2 hv2
          simp only [flat, Option.bind_some, ↓reduceIte]
          rw [e2]
          simp only [Option.bind_some, ↓reduceIte]
          rw [e3]
          simp only [Option.bind_some, ↓reduceIte]
          obtain ⟨t1, t2⟩ := lAct_tc ⟨a0, a1, a2, a3, a4, a5, a6, h⟩ ⟨o0, o1, mn o2 a5, o3⟩
          simp only at t1 t2
          obtain ⟨hv2, hl2⟩ := hv2
          rw [if_pos (by omega), if_pos t1, if_pos t2]
          have hn12 := hv.2.2.2.2.1
          simp only at hn12
          have loop := makes_loop true (lAct ⟨a0, a1, a2, a3, a4, a5, a6, h⟩ ⟨o0, o1, mn o2 a5, o3⟩).2 (hsum h) (hsum (lAct ⟨a0, a1, a2, a3, a4, a5, a6, h⟩ ⟨o0, o1, mn o2 a5, o3⟩).1.h) a0 a1 a2 a3 a4 a5 a6 h o0 o1 (mn o2 a5) o3
            (lAct ⟨a0, a1, a2, a3, a4, a5, a6, h⟩ ⟨o0, o1, mn o2 a5, o3⟩).1.b (lAct ⟨a0, a1, a2, a3, a4, a5, a6, h⟩ ⟨o0, o1, mn o2 a5, o3⟩).1.r (lAct ⟨a0, a1, a2, a3, a4, a5, a6, h⟩ ⟨o0, o1, mn o2 a5, o3⟩).1.p (lAct ⟨a0, a1, a2, a3, a4, a5, a6, h⟩ ⟨o0, o1, mn o2 a5, o3⟩).1.l (lAct ⟨a0, a1, a2, a3, a4, a5, a6, h⟩ ⟨o0, o1, mn o2 a5, o3⟩).1.q (lAct ⟨a0, a1, a2, a3, a4, a5, a6, h⟩ ⟨o0, o1, mn o2 a5, o3⟩).1.t (lAct ⟨a0, a1, a2, a3, a4, a5, a6, h⟩ ⟨o0, o1, mn o2 a5, o3⟩).1.c
            (lAct ⟨a0, a1, a2, a3, a4, a5, a6, h⟩ ⟨o0, o1, mn o2 a5, o3⟩).1.h (by omega) hl2 (by
              intro j hj
              rcases lAct_h ⟨a0, a1, a2, a3, a4, a5, a6, h⟩ ⟨o0, o1, mn o2 a5, o3⟩ with g | ⟨a, g⟩
              · rw [g]
              · rw [g]
                simp only
                exact rd_set_ne (by have := c1.2.2.1; simp only at this; omega)) h.length 0 300 (by omega) (by omega)
          rw [show ((0 : Nat) : Int) = 0 from rfl] at loop
          rw [loop]
          clear loop
          simp only [spigotlaw42_LeaseMakes.l0]
          rw [if_neg (by omega)]
          have bd := chunk_bd hv c1.2.2.1 (by simp only; omega)
          have hb := hsum_bd hv.2.2.2.2.2
          have hx := hv.2.2.2.2.2 _ (held_mem (s := ⟨a0, a1, a2, a3, a4, a5, a6, h⟩) (i := o1) c1.2.2.1 (by simp only; omega))
          obtain ⟨⟨⟨_, hb1, _⟩, l0, l1, _⟩, c0, c6, _, _, _⟩ := hv
          obtain ⟨k0, k4, i0, n0, n1, kn⟩ := c1
          simp only at bd hb hx hb1 l0 l1 c0 c6 k0 k4 i0 n0 n1 kn
          have hp := fun a => hsum_put (l := h) (i := o1) a i0 (by omega)
          unfold lAct
          simp only
          unfold held at *
          simp only at *
          by_cases d1 : o0 = 1
          · rw [if_pos d1]
            simp only [if_pos d1, ↓reduceIte]
            rw [hp, if_pos (by omega), if_pos (by omega), wrap64_id (x := _ + (a3 - _)) (by omega) (by omega), wrap64_id (x := hsum h + a3) (by omega) (by omega), if_pos (by omega), wrap64_id (x := hsum h + _) (by omega) (by omega)]
            simp only [Option.some.injEq, beq_iff_eq]
            omega
          · rw [if_neg d1]
            by_cases d2 : o0 = 2
            · rw [if_pos d2]
              simp only [if_neg d1, if_pos d2, ↓reduceIte]
              by_cases d : rd h o1 < o3
              · simp only [if_pos d, ↓reduceIte]
                rw [if_pos (by omega), if_pos (by omega)]
              · simp only [if_neg d]
                rw [hp, if_neg (by omega)]
                simp only [↓reduceIte]
                rw [wrap64_id (x := hsum h - rd h o1 + (rd h o1 - o3) + a3) (by omega) (by omega), wrap64_id (x := hsum h + a3) (by omega) (by omega), wrap64_id (x := hsum h + a3 - o3) (by omega) (by omega), if_pos (by omega), wrap64_id (x := hsum h - o3) (by omega) (by omega)]
                simp only [Option.some.injEq, beq_iff_eq]
                omega
            · rw [if_neg d2]
              by_cases d3 : o0 = 3
              · rw [if_pos d3]
                simp only [if_neg d1, if_neg d2, if_pos d3, ↓reduceIte]
                have em : mn a0 (a3 + rd h o1) ≤ a3 + rd h o1 ∧ 0 ≤ mn a0 (a3 + rd h o1) ∧ mn a0 (a3 + rd h o1) ≤ a0 ∧ (mn a0 (a3 + rd h o1) = a3 + rd h o1 ∨ mn a0 (a3 + rd h o1) = a0) := by unfold mn; split <;> omega
                rw [hp, if_pos i0, if_pos (by omega), wrap64_id (x := hsum h - rd h o1) (by omega) (by omega), if_pos (by omega), wrap64_id (x := hsum h - rd h o1 + 0 + _) (by omega) (by omega), wrap64_id (x := hsum h + a3) (by omega) (by omega), if_pos (by omega)]
                by_cases d : hsum h - rd h o1 + 0 + mn a0 (a3 + rd h o1) = hsum h + a3
                · rw [if_pos d]
                · rw [if_neg d]
                  simp only [Option.some.injEq, beq_iff_eq]
                  omega
              · rw [if_neg d3]
                simp only [if_neg d1, if_neg d2, if_neg d3, ↓reduceIte]
                rw [hp, if_pos i0, if_pos (by omega), wrap64_id (x := hsum h - rd h o1) (by omega) (by omega), if_pos (by omega), wrap64_id (x := hsum h - rd h o1 + 0 + a3) (by omega) (by omega), wrap64_id (x := hsum h + a3) (by omega) (by omega), wrap64_id (x := hsum h + a3 - rd h o1) (by omega) (by omega)]
                simp only [Option.some.injEq, beq_iff_eq]
                omega
      · rw [if_neg (by simpa using c1), fin]
    · have ec := rCheck_bad hR g1 hv 301 (by omega)
      simp only at ec
      rw [ec]
      simp only [Option.bind_some]
      rw [if_neg (by decide), fin]
end Go.Proofs.Ytbfdpodlnijeoaa.X
