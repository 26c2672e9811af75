/- TallyDoes, and what it needs. -/
import Derived.Test.YtcdmjdghmbdikaaX4
import Derived.Test.YtcdmjdghmbdikaaX5
import Derived.Test.YtcdmjdghmbdikaaX8
import Derived.Test.YtcdmjdghmbdikaaX9
import Derived.Test.YtcdmjdghmbdikaaX10
import Derived.Test.YtcdmjdghmbdikaaX11
import Derived.Test.YtcdmjdghmbdikaaX12
import Derived.Test.YtcdmjdghmbdikaaX14
import Derived.Test.YtcdmjdghmbdikaaX15
import Derived.Test.YtcdmjdghmbdikaaX16
import Derived.Test.YtcdmjdghmbdikaaX17
import Derived.Test.YtcdmjdghmbdikaaX18
import Derived.Test.YtcdmjdghmbdikaaX19
import Derived.Test.YtcdmjdghmbdikaaX20
import Derived.Test.YtcdmjdghmbdikaaX21
import Derived.Test.YtcdmjdghmbdikaaMath
namespace Go.Proofs.Ytcdmjdghmbdikaa.X
open Go.RowKit Go.Proofs.YtcdmjdghmbdikaaW.PrintWords Go.Proofs.YtcdmjdghmbdikaaW.PrintLast Go.Proofs.YtcdmjdghmbdikaaW.PrintMore
set_option linter.unusedVariables false
set_option linter.unusedSimpArgs false

/-- From the table: how many bits a byte needs. -/
theorem tab_byte (b : Nat) (hb : b < 256) (h0 : 0 < b) : ∃ t : Nat, 1 ≤ t ∧ t ≤ 8 ∧ 2 ^ (t - 1) ≤ b ∧ b < 2 ^ t ∧ bt (⟨#[0, 1, 2, 2, 3, 3, 3, 3, 4, 4, 4, 4, 4, 4, 4, 4, 5, 5, 5, 5, 5, 5, 5, 5, 5, 5, 5, 5, 5, 5, 5, 5, 6, 6, 6, 6, 6, 6, 6, 6, 6, 6, 6, 6, 6, 6, 6, 6, 6, 6, 6, 6, 6, 6, 6, 6, 6, 6, 6, 6, 6, 6, 6, 6, 7, 7, 7, 7, 7, 7, 7, 7, 7, 7, 7, 7, 7, 7, 7, 7, 7, 7, 7, 7, 7, 7, 7, 7, 7, 7, 7, 7, 7, 7, 7, 7, 7, 7, 7, 7, 7, 7, 7, 7, 7, 7, 7, 7, 7, 7, 7, 7, 7, 7, 7, 7, 7, 7, 7, 7, 7, 7, 7, 7, 7, 7, 7, 7, 8, 8, 8, 8, 8, 8, 8, 8, 8, 8, 8, 8, 8, 8, 8, 8, 8, 8, 8, 8, 8, 8, 8, 8, 8, 8, 8, 8, 8, 8, 8, 8, 8, 8, 8, 8, 8, 8, 8, 8, 8, 8, 8, 8, 8, 8, 8, 8, 8, 8, 8, 8, 8, 8, 8, 8, 8, 8, 8, 8, 8, 8, 8, 8, 8, 8, 8, 8, 8, 8, 8, 8, 8, 8, 8, 8, 8, 8, 8, 8, 8, 8, 8, 8, 8, 8, 8, 8, 8, 8, 8, 8, 8, 8, 8, 8, 8, 8, 8, 8, 8, 8, 8, 8, 8, 8, 8, 8, 8, 8, 8, 8, 8, 8, 8, 8, 8, 8, 8, 8, 8, 8, 8, 8, 8, 8, 8, 8]⟩ : ByteArray) (b : Int) = (t : Int) := by
  have h : ∀ b : Fin 256, 0 < b.val → ∃ t : Fin 9, 1 ≤ t.val ∧ 2 ^ (t.val - 1) ≤ b.val ∧ b.val < 2 ^ t.val ∧ bt (⟨#[0, 1, 2, 2, 3, 3, 3, 3, 4, 4, 4, 4, 4, 4, 4, 4, 5, 5, 5, 5, 5, 5, 5, 5, 5, 5, 5, 5, 5, 5, 5, 5, 6, 6, 6, 6, 6, 6, 6, 6, 6, 6, 6, 6, 6, 6, 6, 6, 6, 6, 6, 6, 6, 6, 6, 6, 6, 6, 6, 6, 6, 6, 6, 6, 7, 7, 7, 7, 7, 7, 7, 7, 7, 7, 7, 7, 7, 7, 7, 7, 7, 7, 7, 7, 7, 7, 7, 7, 7, 7, 7, 7, 7, 7, 7, 7, 7, 7, 7, 7, 7, 7, 7, 7, 7, 7, 7, 7, 7, 7, 7, 7, 7, 7, 7, 7, 7, 7, 7, 7, 7, 7, 7, 7, 7, 7, 7, 7, 8, 8, 8, 8, 8, 8, 8, 8, 8, 8, 8, 8, 8, 8, 8, 8, 8, 8, 8, 8, 8, 8, 8, 8, 8, 8, 8, 8, 8, 8, 8, 8, 8, 8, 8, 8, 8, 8, 8, 8, 8, 8, 8, 8, 8, 8, 8, 8, 8, 8, 8, 8, 8, 8, 8, 8, 8, 8, 8, 8, 8, 8, 8, 8, 8, 8, 8, 8, 8, 8, 8, 8, 8, 8, 8, 8, 8, 8, 8, 8, 8, 8, 8, 8, 8, 8, 8, 8, 8, 8, 8, 8, 8, 8, 8, 8, 8, 8, 8, 8, 8, 8, 8, 8, 8, 8, 8, 8, 8, 8, 8, 8, 8, 8, 8, 8, 8, 8, 8, 8, 8, 8, 8, 8, 8, 8, 8, 8]⟩ : ByteArray) (b.val : Int) = (t.val : Int) := by decide +kernel
  obtain ⟨t, h1, h2, h3, h4⟩ := h ⟨b, hb⟩ h0
  exact ⟨t.val, h1, by omega, h2, h3, h4⟩
/-- How many bits a number needs, behind a shift by m. -/
theorem bits_shift {x b : Int} {t m : Nat} (hb : b = x / 2 ^ m) (h1 : 1 ≤ t) (h2 : (2 : Int) ^ (t - 1) ≤ b) (h3 : b < 2 ^ t) : (2 : Int) ^ (t + m - 1) ≤ x ∧ x < 2 ^ (t + m) := by
  subst hb
  obtain ⟨d1, d2⟩ := div_bd (n := x) (two_pow_pos m)
  have e1 := two_pow_split (t - 1) m (t + m - 1) (by omega)
  have e2 := two_pow_split t m (t + m) rfl
  have k1 := Int.mul_le_mul_of_nonneg_right h2 (Int.le_of_lt (two_pow_pos m))
  have k2 : x / 2 ^ m * 2 ^ m + 2 ^ m ≤ 2 ^ t * 2 ^ m := by
    have : (x / 2 ^ m + 1) * 2 ^ m ≤ 2 ^ t * 2 ^ m := Int.mul_le_mul_of_nonneg_right (by omega) (Int.le_of_lt (two_pow_pos m))
    rw [Int.add_mul, Int.one_mul] at this
    exact this
  omega
set_option maxRecDepth 100000 in
theorem Len64_j0 (k : Nat) (x o : Int) (m : Nat) (ho : o = m) (hm : m ≤ 32) (h0 : 0 < x) (h1 : x < 4294967296) :
    ∃ t : Nat, 1 ≤ t ∧ t ≤ 32 ∧ bits_Len64.j0 (k + 1) x o = some ((t + m : Nat) : Int) ∧ (2 : Int) ^ (t - 1) ≤ x ∧ x < 2 ^ t := by
  rw [bits_Len64.j0]
  have key : ∀ (b : Int) (s : Nat), b = x / 2 ^ s → 0 < b → b < 256 → s ≤ 24 → ∃ t : Nat, 1 ≤ t ∧ t ≤ 8 ∧ bt (⟨#[0, 1, 2, 2, 3, 3, 3, 3, 4, 4, 4, 4, 4, 4, 4, 4, 5, 5, 5, 5, 5, 5, 5, 5, 5, 5, 5, 5, 5, 5, 5, 5, 6, 6, 6, 6, 6, 6, 6, 6, 6, 6, 6, 6, 6, 6, 6, 6, 6, 6, 6, 6, 6, 6, 6, 6, 6, 6, 6, 6, 6, 6, 6, 6, 7, 7, 7, 7, 7, 7, 7, 7, 7, 7, 7, 7, 7, 7, 7, 7, 7, 7, 7, 7, 7, 7, 7, 7, 7, 7, 7, 7, 7, 7, 7, 7, 7, 7, 7, 7, 7, 7, 7, 7, 7, 7, 7, 7, 7, 7, 7, 7, 7, 7, 7, 7, 7, 7, 7, 7, 7, 7, 7, 7, 7, 7, 7, 7, 8, 8, 8, 8, 8, 8, 8, 8, 8, 8, 8, 8, 8, 8, 8, 8, 8, 8, 8, 8, 8, 8, 8, 8, 8, 8, 8, 8, 8, 8, 8, 8, 8, 8, 8, 8, 8, 8, 8, 8, 8, 8, 8, 8, 8, 8, 8, 8, 8, 8, 8, 8, 8, 8, 8, 8, 8, 8, 8, 8, 8, 8, 8, 8, 8, 8, 8, 8, 8, 8, 8, 8, 8, 8, 8, 8, 8, 8, 8, 8, 8, 8, 8, 8, 8, 8, 8, 8, 8, 8, 8, 8, 8, 8, 8, 8, 8, 8, 8, 8, 8, 8, 8, 8, 8, 8, 8, 8, 8, 8, 8, 8, 8, 8, 8, 8, 8, 8, 8, 8, 8, 8, 8, 8, 8, 8, 8, 8]⟩ : ByteArray) b = (t : Int) ∧ (2 : Int) ^ (t + s - 1) ≤ x ∧ x < 2 ^ (t + s) := by
    intro b s hb b0 b1 hs
    obtain ⟨c, rfl⟩ := Int.eq_ofNat_of_zero_le (Int.le_of_lt b0)
    obtain ⟨t, t1, t2, t3, t4, t5⟩ := tab_byte c (by omega) (by omega)
    obtain ⟨e1, e2⟩ := bits_shift (x := x) (b := c) (t := t) (m := s) hb t1 (by exact_mod_cast t3) (by exact_mod_cast t4)
    exact ⟨t, t1, t2, t5, e1, e2⟩
  by_cases c1 : x ≥ 65536
  · rw [if_pos c1]
    by_cases c2 : x / 65536 ≥ 256
    · rw [if_pos c2, if_pos (by omega), if_pos (by omega)]
      obtain ⟨t, t1, t2, t3, t4, t5⟩ := key (x / 65536 / 256 % 256) 24 (by rw [Int.emod_eq_of_lt (by omega) (by omega), show ((2 : Int) ^ 24) = 16777216 from rfl]; omega) (by omega) (by omega) (by omega)
      refine ⟨t + 24, by omega, by omega, ?_, t4, t5⟩
      rw [t3, ho, wrap64_id (x := (m : Int) + 16) (by omega) (by omega), wrap64_id (x := (m : Int) + 16 + 8) (by omega) (by omega), wrap64_id (x := (t : Int)) (by omega) (by omega), wrap64_id (by omega) (by omega)]
      congr 1
      omega
    · rw [if_neg c2, if_pos (by omega), if_pos (by omega)]
      obtain ⟨t, t1, t2, t3, t4, t5⟩ := key (x / 65536 % 256) 16 (by rw [Int.emod_eq_of_lt (by omega) (by omega), show ((2 : Int) ^ 16) = 65536 from rfl]) (by omega) (by omega) (by omega)
      refine ⟨t + 16, by omega, by omega, ?_, t4, t5⟩
      rw [t3, ho, wrap64_id (x := (m : Int) + 16) (by omega) (by omega), wrap64_id (x := (t : Int)) (by omega) (by omega), wrap64_id (by omega) (by omega)]
      congr 1
      omega
  · rw [if_neg c1]
    by_cases c2 : x ≥ 256
    · rw [if_pos c2, if_pos (by omega), if_pos (by omega)]
      obtain ⟨t, t1, t2, t3, t4, t5⟩ := key (x / 256 % 256) 8 (by rw [Int.emod_eq_of_lt (by omega) (by omega), show ((2 : Int) ^ 8) = 256 from rfl]) (by omega) (by omega) (by omega)
      refine ⟨t + 8, by omega, by omega, ?_, t4, t5⟩
      rw [t3, ho, wrap64_id (x := (m : Int) + 8) (by omega) (by omega), wrap64_id (x := (t : Int)) (by omega) (by omega), wrap64_id (by omega) (by omega)]
      congr 1
      omega
    · rw [if_neg c2, if_pos (by omega), if_pos (by omega)]
      obtain ⟨t, t1, t2, t3, t4, t5⟩ := key (x % 256) 0 (by rw [Int.emod_eq_of_lt (by omega) (by omega)]; simp) (by omega) (by omega) (by omega)
      refine ⟨t, by omega, by omega, ?_, t4, t5⟩
      rw [t3, ho, wrap64_id (x := (t : Int)) (by omega) (by omega), wrap64_id (by omega) (by omega)]
      congr 1
      omega
theorem Len64_ok (k : Nat) (x : Int) (h0 : 0 < x) (h1 : x < 18446744073709551616) :
    ∃ t : Nat, 1 ≤ t ∧ t ≤ 64 ∧ bits_Len64.f (k + 1) x = some (t : Int) ∧ (2 : Int) ^ (t - 1) ≤ x ∧ x < 2 ^ t := by
  unfold bits_Len64.f
  by_cases c : x ≥ 4294967296
  · rw [if_pos c]
    obtain ⟨t, t1, t2, t3, t4, t5⟩ := Len64_j0 k (x / 4294967296) 32 32 rfl (by omega) (by omega) (by omega)
    obtain ⟨e1, e2⟩ := bits_shift (x := x) (b := x / 4294967296) (t := t) (m := 32) (by rw [show ((2 : Int) ^ 32) = 4294967296 from rfl]) t1 t4 t5
    exact ⟨t + 32, by omega, by omega, t3, e1, e2⟩
  · rw [if_neg c]
    obtain ⟨t, t1, t2, t3, t4, t5⟩ := Len64_j0 k x 0 0 rfl (by omega) h0 (by omega)
    exact ⟨t, by omega, by omega, t3, t4, t5⟩
theorem LeadingZeros64_ok (k : Nat) (x : Int) (h0 : 0 < x) (h1 : x < 18446744073709551616) :
    ∃ s : Nat, s ≤ 63 ∧ bits_LeadingZeros64.f (k + 1) x = some (s : Int) ∧ (9223372036854775808 : Int) ≤ x * 2 ^ s ∧ x * 2 ^ s < 18446744073709551616 := by
  obtain ⟨t, t1, t2, t3, t4, t5⟩ := Len64_ok k x h0 h1
  refine ⟨64 - t, by omega, ?_, ?_, ?_⟩
  · unfold bits_LeadingZeros64.f
    rw [t3]
    simp only [Option.bind_some]
    rw [wrap64_id (by omega) (by omega)]
    congr 1
    omega
  · have e := two_pow_split (t - 1) (64 - t) 63 (by omega)
    have k1 := Int.mul_le_mul_of_nonneg_right t4 (Int.le_of_lt (two_pow_pos (64 - t)))
    rw [e] at k1
    exact k1
  · have e := two_pow_split t (64 - t) 64 (by omega)
    have k1 := Int.mul_lt_mul_of_pos_right t5 (two_pow_pos (64 - t))
    rw [e] at k1
    exact k1

/-! #### the loops of Div64: a guessed digit is lowered until it is the digit -/
section
variable {y yn1 yn0 u v q r : Int}
theorem kn_eq (hy : y = yn1 * 4294967296 + yn0) : q * y = q * yn1 * 4294967296 + q * yn0 := by rw [hy, Int.mul_add, Int.mul_assoc]
theorem kn_dec (hy : y = yn1 * 4294967296 + yn0) (hu0 : 0 ≤ u) (hu : u < y) (hv0 : 0 ≤ v) (hv : v < 4294967296) (hq : u = q * yn1 + r) (hq0 : 0 ≤ q) (hc : q ≥ 4294967296 ∨ q * yn0 > 4294967296 * r + v) : u * 4294967296 + v < q * y ∧ 1 ≤ q := by
  have e := kn_eq (q := q) hy
  have h : u * 4294967296 + v < q * y := by
    rcases hc with h | h
    · have := Int.mul_le_mul_of_nonneg_right h (by omega : 0 ≤ y)
      omega
    · omega
  refine ⟨h, ?_⟩
  rcases Int.lt_or_le 0 q with h' | h'
  · omega
  · have : q = 0 := by omega
    subst this
    rw [Int.zero_mul] at h
    omega
theorem kn_low (hy : y = yn1 * 4294967296 + yn0) (hu : u < y) (hu0 : 0 ≤ u) (hv : v < 4294967296) (hq : q * y ≤ u * 4294967296 + v) : q < 4294967296 := by
  rcases Int.lt_or_le q 4294967296 with h | h
  · exact h
  · have := Int.mul_le_mul_of_nonneg_right h (by omega : 0 ≤ y)
    omega
theorem kn_brk (hy : y = yn1 * 4294967296 + yn0) (h2 : 0 ≤ yn0) (h2' : yn0 < 4294967296) (hv0 : 0 ≤ v) (hq : u = q * yn1 + r) (hq0 : 0 ≤ q) (hq1 : q ≤ 4294967296) (hr : 4294967296 ≤ r) : q * y ≤ u * 4294967296 + v := by
  have e := kn_eq (q := q) hy
  have h := (mul_bd hq0 hq1 h2 (by omega : yn0 ≤ 4294967295)).2
  omega
end

theorem Div64_l0 (y s yn1 yn0 u v un0 : Int) (hy : y = yn1 * 4294967296 + yn0) (h1 : 2147483648 ≤ yn1) (h1' : yn1 < 4294967296) (h2 : 0 ≤ yn0) (h2' : yn0 < 4294967296) (hu0 : 0 ≤ u) (hu : u < y) (hv0 : 0 ≤ v) (hv : v < 4294967296) :
    ∀ (d k : Nat) (q r : Int), 2 * d + 2 ≤ k → 4294967296 ≤ r + d * 2147483648 → 0 ≤ r → r < 4294967296 → u = q * yn1 + r → 0 ≤ q → q ≤ 4294967297 → u * 4294967296 + v < q * y + y →
    ∃ k' q', k ≤ k' + (2 * d + 2) ∧ bits_Div64.l0 k y s yn1 yn0 u v un0 q r = bits_Div64.j2 k' y s yn1 yn0 u v un0 q' ∧ 0 ≤ q' ∧ q' < 4294967296 ∧ q' * y ≤ u * 4294967296 + v ∧ u * 4294967296 + v < q' * y + y := by
  intro d
  induction d with
  | zero => intro k q r _ h; intros; omega
  | succ d ih =>
    intro k q r hk hd hr0 hr hq hq0 hq1 hlt
    obtain ⟨k, rfl⟩ : ∃ m, k = m + 2 := ⟨k - 2, by omega⟩
    have dec : q ≥ 4294967296 ∨ q * yn0 > 4294967296 * r + v → ∃ k' q', k + 2 ≤ k' + (2 * (d + 1) + 2) ∧ bits_Div64.j1 (k + 1) y s yn1 yn0 u v un0 q r true = bits_Div64.j2 k' y s yn1 yn0 u v un0 q' ∧ 0 ≤ q' ∧ q' < 4294967296 ∧ q' * y ≤ u * 4294967296 + v ∧ u * 4294967296 + v < q' * y + y := by
      intro hc
      obtain ⟨g1, g2⟩ := kn_dec hy hu0 hu hv0 hv hq hq0 hc
      have e1 : (q - 1) * y = q * y - y := by rw [Int.sub_mul, Int.one_mul]
      have e2 : (q - 1) * yn1 = q * yn1 - yn1 := by rw [Int.sub_mul, Int.one_mul]
      simp only [bits_Div64.j1, ↓reduceIte]
      rw [wrap_id (x := q - 1) ⟨by omega, by omega⟩, wrap_id (x := r + yn1) ⟨by omega, by omega⟩]
      by_cases c : r + yn1 ≥ 4294967296
      · rw [if_pos c]
        have b := kn_brk (q := q - 1) (r := r + yn1) (u := u) (v := v) hy h2 h2' hv0 (by omega) (by omega) (by omega) c
        exact ⟨k, q - 1, by omega, rfl, by omega, kn_low hy hu hu0 hv b, b, by omega⟩
      · rw [if_neg c]
        obtain ⟨k', q', a1, a2, a3⟩ := ih k (q - 1) (r + yn1) (by omega) (by omega) (by omega) (by omega) (by omega) (by omega) (by omega) (by omega)
        exact ⟨k', q', by omega, a2, a3⟩
    simp only [bits_Div64.l0]
    by_cases c1 : q ≥ 4294967296
    · rw [if_pos c1]
      exact dec (.inl c1)
    · rw [if_neg c1]
      have b1 := mul_bd hq0 (by omega : q ≤ 4294967295) h2 (by omega : yn0 ≤ 4294967295)
      rw [wrap_id (x := q * yn0) ⟨by omega, by omega⟩, wrap_id (x := 4294967296 * r) ⟨by omega, by omega⟩, wrap_id (x := 4294967296 * r + v) ⟨by omega, by omega⟩]
      by_cases c2 : q * yn0 > 4294967296 * r + v
      · rw [decide_eq_true c2]
        exact dec (.inr c2)
      · rw [decide_eq_false c2]
        simp only [bits_Div64.j1, Bool.false_eq_true, ↓reduceIte]
        have e := kn_eq (q := q) hy
        exact ⟨k, q, by omega, rfl, hq0, by omega, by omega, hlt⟩
theorem Div64_l1 (y s yn1 yn0 u v q1 : Int) (hy : y = yn1 * 4294967296 + yn0) (h1 : 2147483648 ≤ yn1) (h1' : yn1 < 4294967296) (h2 : 0 ≤ yn0) (h2' : yn0 < 4294967296) (hu0 : 0 ≤ u) (hu : u < y) (hv0 : 0 ≤ v) (hv : v < 4294967296) (hs : 0 ≤ s) :
    ∀ (d k : Nat) (q r : Int), 2 * d + 2 ≤ k → 4294967296 ≤ r + d * 2147483648 → 0 ≤ r → r < 4294967296 → u = q * yn1 + r → 0 ≤ q → q ≤ 4294967297 → u * 4294967296 + v < q * y + y →
    ∃ q', bits_Div64.l1 k y s yn1 yn0 v q1 r u q = some (IntKind.u64.wrap (IntKind.u64.wrap (q1 * 4294967296) + q'), shr .u64 (IntKind.u64.wrap (IntKind.u64.wrap (IntKind.u64.wrap (u * 4294967296) + v) - IntKind.u64.wrap (q' * y))) s) ∧ 0 ≤ q' ∧ q' < 4294967296 ∧ q' * y ≤ u * 4294967296 + v ∧ u * 4294967296 + v < q' * y + y := by
  intro d
  induction d with
  | zero => intro k q r _ h; intros; omega
  | succ d ih =>
    intro k q r hk hd hr0 hr hq hq0 hq1 hlt
    obtain ⟨k, rfl⟩ : ∃ m, k = m + 2 := ⟨k - 2, by omega⟩
    have dec : q ≥ 4294967296 ∨ q * yn0 > 4294967296 * r + v → ∃ q', bits_Div64.j4 (k + 1) y s yn1 yn0 v q1 r u q true = some (IntKind.u64.wrap (IntKind.u64.wrap (q1 * 4294967296) + q'), shr .u64 (IntKind.u64.wrap (IntKind.u64.wrap (IntKind.u64.wrap (u * 4294967296) + v) - IntKind.u64.wrap (q' * y))) s) ∧ 0 ≤ q' ∧ q' < 4294967296 ∧ q' * y ≤ u * 4294967296 + v ∧ u * 4294967296 + v < q' * y + y := by
      intro hc
      obtain ⟨g1, g2⟩ := kn_dec hy hu0 hu hv0 hv hq hq0 hc
      have e1 : (q - 1) * y = q * y - y := by rw [Int.sub_mul, Int.one_mul]
      have e2 : (q - 1) * yn1 = q * yn1 - yn1 := by rw [Int.sub_mul, Int.one_mul]
      simp only [bits_Div64.j4, ↓reduceIte]
      rw [wrap_id (x := q - 1) ⟨by omega, by omega⟩, wrap_id (x := r + yn1) ⟨by omega, by omega⟩]
      by_cases c : r + yn1 ≥ 4294967296
      · rw [if_pos c, if_pos hs]
        have b := kn_brk (q := q - 1) (r := r + yn1) (u := u) (v := v) hy h2 h2' hv0 (by omega) (by omega) (by omega) c
        exact ⟨q - 1, rfl, by omega, kn_low hy hu hu0 hv b, b, by omega⟩
      · rw [if_neg c]
        exact ih k (q - 1) (r + yn1) (by omega) (by omega) (by omega) (by omega) (by omega) (by omega) (by omega) (by omega)
    simp only [bits_Div64.l1]
    by_cases c1 : q ≥ 4294967296
    · rw [if_pos c1]
      exact dec (.inl c1)
    · rw [if_neg c1]
      have b1 := mul_bd hq0 (by omega : q ≤ 4294967295) h2 (by omega : yn0 ≤ 4294967295)
      rw [wrap_id (x := q * yn0) ⟨by omega, by omega⟩, wrap_id (x := 4294967296 * r) ⟨by omega, by omega⟩, wrap_id (x := 4294967296 * r + v) ⟨by omega, by omega⟩]
      by_cases c2 : q * yn0 > 4294967296 * r + v
      · rw [decide_eq_true c2]
        exact dec (.inr c2)
      · rw [decide_eq_false c2]
        simp only [bits_Div64.j4, Bool.false_eq_true, ↓reduceIte]
        rw [if_pos hs]
        have e := kn_eq (q := q) hy
        exact ⟨q, rfl, hq0, by omega, by omega, hlt⟩
/-- bits.Div64, where the quotient fits: the quotient and the rest. -/
theorem Div64_ok (k : Nat) (hk : 20 ≤ k) (hi lo y : Int) (h0 : 0 ≤ hi) (hl : U64 lo) (hy : y < 18446744073709551616) (hlt : hi < y) :
    bits_Div64.f k hi lo y = some ((hi * 18446744073709551616 + lo) / y, (hi * 18446744073709551616 + lo) % y) := by
  obtain ⟨hl0, hl1⟩ := hl
  unfold bits_Div64.f
  rw [if_neg (by omega), if_neg (by omega)]
  by_cases c0 : hi = 0
  · subst c0
    rw [if_pos rfl, tdiv_nonneg_eq hl0, tmod_nonneg_eq hl0, wrap_id ⟨div_nonneg hl0 (by omega), ?_⟩]
    · simp
    · have := div_le hl0 (by omega : 0 < y)
      omega
  · rw [if_neg c0]
    obtain ⟨k, rfl⟩ : ∃ m, k = m + 1 := ⟨k - 1, by omega⟩
    obtain ⟨s, s1, s2, s3, s4⟩ := LeadingZeros64_ok k y (by omega) hy
    rw [s2]
    simp only [Option.bind_some]
    have P0 := two_pow_pos s
    have R0 := two_pow_pos (64 - s)
    have PR := two_pow_split s (64 - s) 64 (by omega)
    rw [show ((2 : Int) ^ 64) = 18446744073709551616 from rfl] at PR
    rw [wrap_id (x := (s : Int)) ⟨by omega, by omega⟩, wrap_id (x := 64 - (s : Int)) ⟨by omega, by omega⟩, if_pos (by omega), if_pos (by omega)]
    have es : (min ((s : Int).toNat) IntKind.u64.bits) = s := by simp [IntKind.bits] <;> omega
    have es' : (min ((64 - (s : Int)).toNat) IntKind.u64.bits) = 64 - s := by simp [IntKind.bits] <;> omega
    have eY : shl .u64 y (s : Int) = y * 2 ^ s := by unfold shl; rw [es, wrap_id ⟨by omega, s4⟩]
    have eH0 : hi * 2 ^ s ≤ y * 2 ^ s - 2 ^ s := by
      have := Int.mul_le_mul_of_nonneg_right (by omega : hi + 1 ≤ y) (Int.le_of_lt P0)
      rw [Int.add_mul, Int.one_mul] at this
      omega
    have eH1 : 0 ≤ hi * 2 ^ s := Int.mul_nonneg h0 (Int.le_of_lt P0)
    have eH : shl .u64 hi (s : Int) = hi * 2 ^ s := by unfold shl; rw [es, wrap_id ⟨eH1, by omega⟩]
    have eL : shr .u64 lo (64 - (s : Int)) = lo / 2 ^ (64 - s) := by unfold shr; rw [es']
    have eLl : lo / 2 ^ (64 - s) < 2 ^ s := div_lt R0 (by rw [PR]; exact hl1)
    have eL0 : 0 ≤ lo / 2 ^ (64 - s) := div_nonneg hl0 R0
    have eU : Go.bits .or .u64 (hi * 2 ^ s) (lo / 2 ^ (64 - s)) = hi * 2 ^ s + lo / 2 ^ (64 - s) :=
      bits_join .u64 64 (by decide) (fun n a b => wrap_id ⟨a, b⟩) s _ _ eH1 (Int.mul_emod_left _ _) (by show _ < (18446744073709551616 : Int); omega) eL0 eLl (by show _ < (18446744073709551616 : Int); omega)
    obtain ⟨d1, d2, d3⟩ := div_rest (n := lo) R0
    have eLo : lo * 2 ^ s = lo / 2 ^ (64 - s) * 18446744073709551616 + lo % 2 ^ (64 - s) * 2 ^ s := by
      conv => lhs; rw [← d1, Int.add_mul, Int.mul_assoc, Int.mul_comm (2 ^ (64 - s)), PR]
    have eR1 : lo % 2 ^ (64 - s) * 2 ^ s < 18446744073709551616 := by
      have := Int.mul_lt_mul_of_pos_right d3 P0
      rw [Int.mul_comm (2 ^ (64 - s)), PR] at this
      exact this
    have eR0 : 0 ≤ lo % 2 ^ (64 - s) * 2 ^ s := Int.mul_nonneg d2 (Int.le_of_lt P0)
    have eN : shl .u64 lo (s : Int) = lo % 2 ^ (64 - s) * 2 ^ s := by
      unfold shl
      rw [es, wrap_u64, eLo]
      omega
    have eA : Go.bits .and .u64 (y * 2 ^ s) 4294967295 = y * 2 ^ s % 4294967296 :=
      bits_mask .u64 64 (by decide) (fun n a b => wrap_id ⟨a, b⟩) 32 (by decide) _ (by omega) (by show _ < (18446744073709551616 : Int); omega)
    have eB : Go.bits .and .u64 (lo % 2 ^ (64 - s) * 2 ^ s) 4294967295 = lo % 2 ^ (64 - s) * 2 ^ s % 4294967296 :=
      bits_mask .u64 64 (by decide) (fun n a b => wrap_id ⟨a, b⟩) 32 (by decide) _ eR0 (by show _ < (18446744073709551616 : Int); omega)
    rw [eY, eH, eL, eN, eU, eA, eB]
    have eT : (hi * 18446744073709551616 + lo) * 2 ^ s = (hi * 2 ^ s + lo / 2 ^ (64 - s)) * 18446744073709551616 + lo % 2 ^ (64 - s) * 2 ^ s := by
      rw [Int.add_mul, eLo, Int.add_mul, Int.mul_assoc, Int.mul_comm 18446744073709551616 (2 ^ s), ← Int.mul_assoc]
      omega
    obtain ⟨z1, z2⟩ := div_scale (n := hi * 18446744073709551616 + lo) (y := y) P0 (by omega)
    rw [← z1, eT] at *
    generalize hU : hi * 2 ^ s + lo / 2 ^ (64 - s) = U at *
    generalize hV : lo % 2 ^ (64 - s) * 2 ^ s = V at *
    generalize hY : y * 2 ^ s = Y at *
    have hUY : U < Y := by omega
    have hU0 : 0 ≤ U := by omega
    have y1 : Y = Y / 4294967296 * 4294967296 + Y % 4294967296 := by omega
    rw [if_neg (by omega)]
    have n1 : 0 < Y / 4294967296 := by omega
    obtain ⟨g1, g2, g3⟩ := div_rest (n := U) n1
    have gq : U / (Y / 4294967296) < 4294967298 := div_lt n1 (by omega)
    have gq0 := div_nonneg hU0 n1
    rw [tdiv_nonneg_eq hU0, wrap_id (x := U / (Y / 4294967296)) ⟨gq0, by omega⟩]
    have gp0 : 0 ≤ U / (Y / 4294967296) * (Y / 4294967296) := Int.mul_nonneg gq0 (by omega)
    rw [wrap_id (x := U / (Y / 4294967296) * (Y / 4294967296)) ⟨gp0, by omega⟩, wrap_id (x := U - U / (Y / 4294967296) * (Y / 4294967296)) ⟨by omega, by omega⟩]
    have start : ∀ (u v : Int), 0 ≤ u → u < Y → 0 ≤ v → v < 4294967296 → u * 4294967296 + v < u / (Y / 4294967296) * Y + Y := by
      intro u v hu0 huY hv0 hv
      obtain ⟨f1, f2, f3⟩ := div_rest (n := u) n1
      have e := kn_eq (q := u / (Y / 4294967296)) y1
      have := Int.mul_nonneg (div_nonneg hu0 n1) (by omega : 0 ≤ Y % 4294967296)
      omega
    obtain ⟨k', q1, a1, a2, a3, a4, a5, a6⟩ := Div64_l0 Y s (Y / 4294967296) (Y % 4294967296) U (V / 4294967296) (V % 4294967296) y1 (by omega) (by omega) (by omega) (by omega) hU0 hUY (by omega) (by omega) 2 (k + 1) (U / (Y / 4294967296)) (U - U / (Y / 4294967296) * (Y / 4294967296)) (by omega) (by omega) (by omega) (by omega) (by omega) gq0 (by omega) (start U _ hU0 hUY (by omega) (by omega))
    rw [a2]
    obtain ⟨k', rfl⟩ : ∃ m, k' = m + 1 := ⟨k' - 1, by omega⟩
    simp only [bits_Div64.j2]
    rw [if_neg (by omega)]
    have w1 : IntKind.u64.wrap (IntKind.u64.wrap (IntKind.u64.wrap (U * 4294967296) + V / 4294967296) - IntKind.u64.wrap (q1 * Y)) = U * 4294967296 + V / 4294967296 - q1 * Y := by
      simp only [wrap_u64]
      omega
    rw [w1]
    generalize hu2 : U * 4294967296 + V / 4294967296 - q1 * Y = u2 at *
    obtain ⟨b1, b2, b3⟩ := div_rest (n := u2) n1
    have bq : u2 / (Y / 4294967296) < 4294967298 := div_lt n1 (by omega)
    have bq0 := div_nonneg (by omega : 0 ≤ u2) n1
    rw [tdiv_nonneg_eq (by omega : 0 ≤ u2), wrap_id (x := u2 / (Y / 4294967296)) ⟨bq0, by omega⟩]
    have bp0 : 0 ≤ u2 / (Y / 4294967296) * (Y / 4294967296) := Int.mul_nonneg bq0 (by omega)
    rw [wrap_id (x := u2 / (Y / 4294967296) * (Y / 4294967296)) ⟨bp0, by omega⟩, wrap_id (x := u2 - u2 / (Y / 4294967296) * (Y / 4294967296)) ⟨by omega, by omega⟩]
    obtain ⟨q0, c1, c2, c3, c4, c5⟩ := Div64_l1 Y s (Y / 4294967296) (Y % 4294967296) u2 (V % 4294967296) q1 y1 (by omega) (by omega) (by omega) (by omega) (by omega) (by omega) (by omega) (by omega) (by omega) 2 k' (u2 / (Y / 4294967296)) (u2 - u2 / (Y / 4294967296) * (Y / 4294967296)) (by omega) (by omega) (by omega) (by omega) (by omega) bq0 (by omega) (start u2 _ (by omega) (by omega) (by omega) (by omega))
    rw [c1]
    have eq : (q1 * 4294967296 + q0) * Y = q1 * Y * 4294967296 + q0 * Y := by
      rw [Int.add_mul, Int.mul_assoc, Int.mul_comm 4294967296 Y, ← Int.mul_assoc]
    obtain ⟨r1, r2⟩ := div_uniq (n := U * 18446744073709551616 + V) (y := Y) (q := q1 * 4294967296 + q0) (by omega) (by omega)
    have w2 : IntKind.u64.wrap (IntKind.u64.wrap (IntKind.u64.wrap (u2 * 4294967296) + V % 4294967296) - IntKind.u64.wrap (q0 * Y)) = u2 * 4294967296 + V % 4294967296 - q0 * Y := by
      simp only [wrap_u64]
      omega
    have w3 : IntKind.u64.wrap (IntKind.u64.wrap (q1 * 4294967296) + q0) = q1 * 4294967296 + q0 := by
      simp only [wrap_u64]
      omega
    rw [w2, w3, r1]
    have w4 : u2 * 4294967296 + V % 4294967296 - q0 * Y = (U * 18446744073709551616 + V) % Y := by rw [r2]; omega
    rw [w4, z2]
    unfold shr
    rw [es, Int.mul_ediv_cancel _ (by omega)]
theorem and_mask {x : Int} (h0 : 0 ≤ x) (h1 : x < 18446744073709551616) : Go.bits .and .u64 x 4294967295 = x % 4294967296 :=
  bits_mask .u64 64 (by decide) (fun n a b => wrap_id ⟨a, b⟩) 32 (by decide) x h0 h1
theorem and_one {x : Int} (h0 : 0 ≤ x) (h1 : x < 18446744073709551616) : Go.bits .and .u64 x 1 = x % 2 :=
  bits_mask .u64 64 (by decide) (fun n a b => wrap_id ⟨a, b⟩) 1 (by decide) x h0 h1
theorem mul_parts (x y : Int) : x * y = (x / 4294967296) * (y / 4294967296) * 18446744073709551616 + ((x / 4294967296) * (y % 4294967296) + (x % 4294967296) * (y / 4294967296)) * 4294967296 + (x % 4294967296) * (y % 4294967296) := by
  have hx : x = x / 4294967296 * 4294967296 + x % 4294967296 := by omega
  have hy : y = y / 4294967296 * 4294967296 + y % 4294967296 := by omega
  generalize x / 4294967296 = x1 at *
  generalize x % 4294967296 = x0 at *
  generalize y / 4294967296 = y1 at *
  generalize y % 4294967296 = y0 at *
  subst hx; subst hy
  rw [Int.add_mul, Int.mul_add, Int.mul_add]
  have e1 : x1 * 4294967296 * (y1 * 4294967296) = x1 * y1 * 18446744073709551616 := by
    rw [Int.mul_assoc, Int.mul_comm 4294967296 (y1 * 4294967296), Int.mul_assoc y1, ← Int.mul_assoc]; rfl
  have e2 : x1 * 4294967296 * y0 = x1 * y0 * 4294967296 := by rw [Int.mul_assoc, Int.mul_comm 4294967296, ← Int.mul_assoc]
  have e3 : x0 * (y1 * 4294967296) = x0 * y1 * 4294967296 := by rw [Int.mul_assoc]
  rw [e1, e2, e3]
  omega
section
variable {x y : Int}
theorem parts_bd (hx : U64 x) (hy : U64 y) :
    (0 ≤ (x / 4294967296) * (y / 4294967296) ∧ (x / 4294967296) * (y / 4294967296) ≤ 18446744065119617025) ∧ (0 ≤ (x / 4294967296) * (y % 4294967296) ∧ (x / 4294967296) * (y % 4294967296) ≤ 18446744065119617025) ∧
    (0 ≤ (x % 4294967296) * (y / 4294967296) ∧ (x % 4294967296) * (y / 4294967296) ≤ 18446744065119617025) ∧ (0 ≤ (x % 4294967296) * (y % 4294967296) ∧ (x % 4294967296) * (y % 4294967296) ≤ 18446744065119617025) := by
  obtain ⟨_, _⟩ := hx; obtain ⟨_, _⟩ := hy
  have b : ∀ a b : Int, 0 ≤ a → a ≤ 4294967295 → 0 ≤ b → b ≤ 4294967295 → 0 ≤ a * b ∧ a * b ≤ 18446744065119617025 := fun a b h0 h1 h2 h3 => mul_bd h0 h1 h2 h3
  exact ⟨b _ _ (by omega) (by omega) (by omega) (by omega), b _ _ (by omega) (by omega) (by omega) (by omega), b _ _ (by omega) (by omega) (by omega) (by omega), b _ _ (by omega) (by omega) (by omega) (by omega)⟩
theorem mul_U64_bd (hx : U64 x) (hy : U64 y) : 0 ≤ x * y ∧ x * y ≤ 340282366920938463426481119284349108225 := by
  obtain ⟨_, _⟩ := hx; obtain ⟨_, _⟩ := hy
  exact mul_bd (by assumption) (by omega : x ≤ 18446744073709551615) (by assumption) (by omega : y ≤ 18446744073709551615)
theorem bits_Mul64_ok (hx : U64 x) (hy : U64 y) : bits_Mul64.f x y = some (x * y / 18446744073709551616, x * y % 18446744073709551616) := by
  obtain ⟨⟨a1, a2⟩, ⟨b1, b2⟩, ⟨c1, c2⟩, ⟨d1, d2⟩⟩ := parts_bd hx hy
  have e := mul_parts x y
  obtain ⟨hx0, hx1⟩ := hx; obtain ⟨hy0, hy1⟩ := hy
  unfold bits_Mul64.f
  rw [and_mask hx0 hx1, and_mask hy0 hy1, wrap_u64 (x * y)]
  generalize x / 4294967296 * (y / 4294967296) = p11 at *
  generalize x / 4294967296 * (y % 4294967296) = p10 at *
  generalize x % 4294967296 * (y / 4294967296) = p01 at *
  generalize x % 4294967296 * (y % 4294967296) = p00 at *
  generalize x * y = n at *
  rw [wrap_id (x := p11) ⟨by omega, by omega⟩, wrap_id (x := p10) ⟨by omega, by omega⟩, wrap_id (x := p00) ⟨by omega, by omega⟩, wrap_id (x := p01) ⟨by omega, by omega⟩,
    wrap_id (x := p10 + p00 / 4294967296) ⟨by omega, by omega⟩, and_mask (by omega) (by omega), wrap_id (x := (p10 + p00 / 4294967296) % 4294967296 + p01) ⟨by omega, by omega⟩,
    wrap_id (x := p11 + (p10 + p00 / 4294967296) / 4294967296) ⟨by omega, by omega⟩, wrap_id ⟨by omega, by omega⟩]
  congr 2
  omega
end
theorem half (P : Int) (i : Nat) : P / 2 ^ i = 2 * (P / 2 ^ (i + 1)) + P / 2 ^ i % 2 := by
  have : P / 2 ^ (i + 1) = P / 2 ^ i / 2 := by rw [Int.pow_succ, Int.ediv_ediv_of_nonneg (Int.le_of_lt (two_pow_pos i))]
  rw [this]
  omega
theorem bit_hi (h l : Int) (i : Nat) (h0 : 0 ≤ l) (h1 : l < 18446744073709551616) : (h * 18446744073709551616 + l) / 2 ^ (64 + i) = h / 2 ^ i := by
  rw [Int.pow_add, ← Int.ediv_ediv_of_nonneg (Int.le_of_lt (two_pow_pos 64))]
  congr 1
  rw [show ((2 : Int) ^ 64) = 18446744073709551616 from rfl]
  omega
theorem bit_lo (h l : Int) (i : Nat) (hi : i < 64) : (h * 18446744073709551616 + l) / 2 ^ i % 2 = l / 2 ^ i % 2 := by
  have e : h * 18446744073709551616 = h * 2 ^ (63 - i) * 2 * 2 ^ i := by
    rw [Int.mul_assoc, Int.mul_assoc, show ((2 : Int) * 2 ^ i) = 2 ^ (i + 1) from by rw [Int.pow_succ, Int.mul_comm], two_pow_split (63 - i) (i + 1) 64 (by omega)]
    rfl
  rw [e, Int.add_comm, Int.add_mul_ediv_right _ _ (by have := two_pow_pos i; omega)]
  omega
theorem shr_ok (x : Int) (i : Int) (h0 : 0 ≤ i) (h1 : i ≤ 63) : shr .u64 x i = x / 2 ^ i.toNat := by
  unfold shr
  rw [show (min i.toNat IntKind.u64.bits) = i.toNat by simp [IntKind.bits] <;> omega]
/-- One digit of a quotient to the base 2. -/
theorem digit_step {n n' D b : Int} (hD : 0 < D) (hn : n' = 2 * n + b) (b0 : 0 ≤ b) (b1 : b ≤ 1) :
    (2 * (n % D) + b ≥ D → n' / D = 2 * (n / D) + 1 ∧ n' % D = 2 * (n % D) + b - D) ∧ (2 * (n % D) + b < D → n' / D = 2 * (n / D) ∧ n' % D = 2 * (n % D) + b) := by
  obtain ⟨r1, r2, r3⟩ := div_rest (n := n) hD
  refine ⟨fun h => ?_, fun h => ?_⟩
  · have e : (2 * (n / D) + 1) * D = 2 * (n / D * D) + D := by rw [Int.add_mul, Int.one_mul, Int.mul_assoc]
    obtain ⟨z1, z2⟩ := div_uniq (n := n') (y := D) (q := 2 * (n / D) + 1) (by omega) (by omega)
    exact ⟨z1, by omega⟩
  · have e : (2 * (n / D)) * D = 2 * (n / D * D) := by rw [Int.mul_assoc]
    obtain ⟨z1, z2⟩ := div_uniq (n := n') (y := D) (q := 2 * (n / D)) (by omega) (by omega)
    exact ⟨z1, by omega⟩
theorem or_bit {a b : Int} (h0 : 0 ≤ a) (h1 : a < 9223372036854775808) (b0 : 0 ≤ b) (b1 : b ≤ 1) : Go.bits .or .u64 (2 * a) b = 2 * a + b :=
  bits_join .u64 64 (by decide) (fun n x y => wrap_id ⟨x, y⟩) 1 _ _ (by omega) (by show _ % (2 : Int) = 0; omega) (by show _ < (18446744073709551616 : Int); omega) b0 (by show _ < (2 : Int); omega) (by show _ < (18446744073709551616 : Int); omega)
/-- The share: parts times Admitted, divided by both together. -/
def shareOf (a l p : Int) : Int := if a + l = 0 then p else a * p / (a + l)
theorem Share_loop (all hi lo P Q : Int) (h0 : U64 hi) (h1 : U64 lo) (ha : U64 all) (hP : P = hi * 18446744073709551616 + lo) (hQ : Q = P / (18446744073709551616 + all)) (hq : Q < 18446744073709551616) :
    ∀ (i k : Nat), i ≤ 128 → i + 2 ≤ k →
      tally_Share.l0 k all 1 hi lo (P / 2 ^ i / (18446744073709551616 + all)) (P / 2 ^ i % (18446744073709551616 + all) % 18446744073709551616) (P / 2 ^ i % (18446744073709551616 + all) / 18446744073709551616) ((i : Int) - 1) = some (Q, 0) := by
  have hD : 0 < 18446744073709551616 + all := by have := ha.1; omega
  have p0 : 0 ≤ P := by have := h0.1; have := h1.1; omega
  have hn : ∀ i : Nat, 0 ≤ P / 2 ^ i ∧ P / 2 ^ i ≤ P := fun i => ⟨div_nonneg p0 (two_pow_pos i), div_le p0 (two_pow_pos i)⟩
  intro i
  induction i with
  | zero =>
    intro k _ hk
    obtain ⟨k, rfl⟩ : ∃ m, k = m + 1 := ⟨k - 1, by omega⟩
    simp only [tally_Share.l0]
    rw [if_neg (by omega), hQ]
    simp
  | succ i ih =>
    intro k hi' hk
    obtain ⟨k, rfl⟩ : ∃ m, k = m + 1 := ⟨k - 1, by omega⟩
    have ex : (((i + 1 : Nat) : Int) - 1) = (i : Int) := by omega
    rw [ex]
    obtain ⟨n0, n1⟩ := hn i
    obtain ⟨m0, m1⟩ := hn (i + 1)
    have hhalf := half P i
    obtain ⟨r1, r2, r3⟩ := div_rest (n := P / 2 ^ (i + 1)) hD
    have q0 := div_nonneg m0 hD
    have st := digit_step (n := P / 2 ^ (i + 1)) (n' := P / 2 ^ i) (b := P / 2 ^ i % 2) hD hhalf (by omega) (by omega)
    have qi : P / 2 ^ i / (18446744073709551616 + all) ≤ Q := by rw [hQ]; exact div_mono hD n1
    have qj0 := div_nonneg n0 hD
    have ih' := ih k (by omega) (by omega)
    obtain ⟨ha0, ha1⟩ := ha
    have bit : ∀ b : Int, b = P / 2 ^ i % 2 →
        (∀ (x : Option (Int × Int)), ((if (Go.bits .or .u64 (IntKind.u64.wrap (P / 2 ^ (i + 1) % (18446744073709551616 + all) / 18446744073709551616 * 2)) (P / 2 ^ (i + 1) % (18446744073709551616 + all) % 18446744073709551616 / 9223372036854775808)) > 1 then
          ((bits_Sub64.f (Go.bits .or .u64 (IntKind.u64.wrap (P / 2 ^ (i + 1) % (18446744073709551616 + all) % 18446744073709551616 * 2)) b) all 0).bind fun bt => tally_Share.l0 k all 1 hi lo (Go.bits .or .u64 (IntKind.u64.wrap (P / 2 ^ (i + 1) / (18446744073709551616 + all) * 2)) 1) bt.1 (IntKind.u64.wrap ((Go.bits .or .u64 (IntKind.u64.wrap (P / 2 ^ (i + 1) % (18446744073709551616 + all) / 18446744073709551616 * 2)) (P / 2 ^ (i + 1) % (18446744073709551616 + all) % 18446744073709551616 / 9223372036854775808)) - (IntKind.u64.wrap (1 + bt.2)))) (wrap64 ((i : Int) - 1)))
          else if (Go.bits .or .u64 (IntKind.u64.wrap (P / 2 ^ (i + 1) % (18446744073709551616 + all) / 18446744073709551616 * 2)) (P / 2 ^ (i + 1) % (18446744073709551616 + all) % 18446744073709551616 / 9223372036854775808)) = 1 then
            if (Go.bits .or .u64 (IntKind.u64.wrap (P / 2 ^ (i + 1) % (18446744073709551616 + all) % 18446744073709551616 * 2)) b) ≥ all then
              ((bits_Sub64.f (Go.bits .or .u64 (IntKind.u64.wrap (P / 2 ^ (i + 1) % (18446744073709551616 + all) % 18446744073709551616 * 2)) b) all 0).bind fun bt => tally_Share.l0 k all 1 hi lo (Go.bits .or .u64 (IntKind.u64.wrap (P / 2 ^ (i + 1) / (18446744073709551616 + all) * 2)) 1) bt.1 (IntKind.u64.wrap ((Go.bits .or .u64 (IntKind.u64.wrap (P / 2 ^ (i + 1) % (18446744073709551616 + all) / 18446744073709551616 * 2)) (P / 2 ^ (i + 1) % (18446744073709551616 + all) % 18446744073709551616 / 9223372036854775808)) - (IntKind.u64.wrap (1 + bt.2)))) (wrap64 ((i : Int) - 1)))
            else tally_Share.l0 k all 1 hi lo (IntKind.u64.wrap (P / 2 ^ (i + 1) / (18446744073709551616 + all) * 2)) (Go.bits .or .u64 (IntKind.u64.wrap (P / 2 ^ (i + 1) % (18446744073709551616 + all) % 18446744073709551616 * 2)) b) (Go.bits .or .u64 (IntKind.u64.wrap (P / 2 ^ (i + 1) % (18446744073709551616 + all) / 18446744073709551616 * 2)) (P / 2 ^ (i + 1) % (18446744073709551616 + all) % 18446744073709551616 / 9223372036854775808)) (wrap64 ((i : Int) - 1))
          else tally_Share.l0 k all 1 hi lo (IntKind.u64.wrap (P / 2 ^ (i + 1) / (18446744073709551616 + all) * 2)) (Go.bits .or .u64 (IntKind.u64.wrap (P / 2 ^ (i + 1) % (18446744073709551616 + all) % 18446744073709551616 * 2)) b) (Go.bits .or .u64 (IntKind.u64.wrap (P / 2 ^ (i + 1) % (18446744073709551616 + all) / 18446744073709551616 * 2)) (P / 2 ^ (i + 1) % (18446744073709551616 + all) % 18446744073709551616 / 9223372036854775808)) (wrap64 ((i : Int) - 1))) = x → x = some (Q, 0)) ) := by
      intro b hb x hx
      rw [← hb] at hhalf st
      have b0 : 0 ≤ b := by omega
      have b1 : b ≤ 1 := by omega
      rw [← hx, wrap64_id (x := (i : Int) - 1) (by omega) (by omega)]
      clear hx
      generalize P / 2 ^ i = n' at *
      generalize P / 2 ^ (i + 1) = n at *
      have eQ : IntKind.u64.wrap (n / (18446744073709551616 + all) * 2) = 2 * (n / (18446744073709551616 + all)) := by
        rw [wrap_id ⟨by omega, ?_⟩]
        · omega
        · rcases Int.lt_or_le (2 * (n % (18446744073709551616 + all)) + b) (18446744073709551616 + all) with h | h
          · have := (st.2 h).1; omega
          · have := (st.1 h).1; omega
      rw [eQ]
      have q1 : n / (18446744073709551616 + all) < 9223372036854775808 := by
        rcases Int.lt_or_le (2 * (n % (18446744073709551616 + all)) + b) (18446744073709551616 + all) with h | h
        · have := (st.2 h).1; omega
        · have := (st.1 h).1; omega
      rw [or_bit (b := 1) q0 q1 (by decide) (by decide)]
      generalize n / (18446744073709551616 + all) = Qn at *
      generalize n % (18446744073709551616 + all) = R at *
      have eO : IntKind.u64.wrap (R / 18446744073709551616 * 2) = 2 * (R / 18446744073709551616) := by rw [wrap_id ⟨by omega, by omega⟩]; omega
      have eR : IntKind.u64.wrap (R % 18446744073709551616 * 2) = 2 * (R % 9223372036854775808) := by rw [wrap_u64]; omega
      rw [eO, eR, or_bit (a := R / 18446744073709551616) (by omega) (by omega) (by omega) (by omega), or_bit (a := R % 9223372036854775808) (by omega) (by omega) b0 b1]
      have sub : ∀ (y z : Int), 2 * R + b ≥ 18446744073709551616 + all → y = 2 * (R / 18446744073709551616) + R % 18446744073709551616 / 9223372036854775808 → z = 2 * (R % 9223372036854775808) + b →
          ((bits_Sub64.f z all 0).bind fun bt => tally_Share.l0 k all 1 hi lo (2 * Qn + 1) bt.1 (IntKind.u64.wrap (y - IntKind.u64.wrap (1 + bt.2))) ((i : Int) - 1)) = some (Q, 0) := by
        intro y z hc hy hz
        obtain ⟨s1, s2⟩ := st.1 hc
        unfold bits_Sub64.f
        rw [if_pos ⟨by omega, by omega, by omega, by omega, by omega⟩]
        simp only [Option.bind_some]
        rw [← ih', s1, s2]
        congr 1
        · omega
        · by_cases lt : z < all + 0
          · rw [if_pos lt]
            simp only [wrap_u64]
            omega
          · rw [if_neg lt]
            simp only [wrap_u64]
            omega
      by_cases c1 : 2 * (R / 18446744073709551616) + R % 18446744073709551616 / 9223372036854775808 > 1
      · rw [if_pos c1]
        exact sub _ _ (by omega) rfl rfl
      · rw [if_neg c1]
        by_cases c2 : 2 * (R / 18446744073709551616) + R % 18446744073709551616 / 9223372036854775808 = 1
        · rw [if_pos c2]
          by_cases c3 : 2 * (R % 9223372036854775808) + b ≥ all
          · rw [if_pos c3]
            exact sub _ _ (by omega) rfl rfl
          · rw [if_neg c3, ← ih']
            obtain ⟨s1, s2⟩ := st.2 (by omega)
            rw [s1, s2]
            congr 1 <;> omega
        · rw [if_neg c2, ← ih']
          obtain ⟨s1, s2⟩ := st.2 (by omega)
          rw [s1, s2]
          congr 1 <;> omega
    simp only [tally_Share.l0]
    rw [if_pos (by omega)]
    by_cases c : (i : Int) ≥ 64
    · rw [if_pos c, wrap64_id (x := (i : Int) - 64) (by omega) (by omega), if_pos (by omega), shr_ok _ _ (by omega) (by omega)]
      have hh := div_nonneg h0.1 (two_pow_pos ((i : Int) - 64).toNat)
      have hh1 := div_le h0.1 (two_pow_pos ((i : Int) - 64).toNat)
      have := h0.2
      rw [and_one hh (by omega)]
      refine bit _ ?_ _ rfl
      have e := bit_hi hi lo ((i : Int) - 64).toNat h1.1 h1.2
      rw [show 64 + ((i : Int) - 64).toNat = i by omega] at e
      rw [hP, e]
    · rw [if_neg c, if_pos (by omega), shr_ok _ _ (by omega) (by omega)]
      have hh := div_nonneg h1.1 (two_pow_pos (i : Int).toNat)
      have hh1 := div_le h1.1 (two_pow_pos (i : Int).toNat)
      have := h1.2
      rw [and_one hh (by omega)]
      refine bit _ ?_ _ rfl
      have e := bit_lo hi lo i (by omega)
      rw [hP, e]
      rfl
theorem U64_lo' {n : Int} : U64 (n % 18446744073709551616) := ⟨by omega, by omega⟩
theorem share_le {a l p : Int} (ha : 0 ≤ a) (hl : 0 ≤ l) (hp : 0 ≤ p) : 0 ≤ shareOf a l p ∧ shareOf a l p ≤ p := by
  unfold shareOf
  split
  · exact ⟨hp, Int.le_refl _⟩
  · have hD : 0 < a + l := by omega
    refine ⟨div_nonneg (Int.mul_nonneg ha hp) hD, ?_⟩
    have h : a * p ≤ p * (a + l) := by
      rw [Int.mul_comm p]
      exact Int.mul_le_mul_of_nonneg_right (by omega) hp
    have := div_mono hD h
    rw [Int.mul_ediv_cancel _ (by omega)] at this
    exact this
theorem Share_ok (k : Nat) (hk : 300 ≤ k) {a l c p : Int} (ha : U64 a) (hl : U64 l) (hp : U64 p) : tally_Share.f k a l c p = some (shareOf a l p, 0) := by
  obtain ⟨s0, s1⟩ := share_le ha.1 hl.1 hp.1
  have m := mul_U64_bd ha hp
  obtain ⟨a0, a1⟩ := ha
  obtain ⟨l0, l1⟩ := hl
  obtain ⟨k, rfl⟩ : ∃ m, k = m + 1 := ⟨k - 1, by omega⟩
  unfold tally_Share.f bits_Add64.f
  rw [if_pos ⟨a0, l0, by decide, by decide⟩]
  simp only [Option.bind_some, Int.add_zero]
  have go : ∀ f : Bool, f = false → a + l ≠ 0 → tally_Share.j0 (k + 1) p ((a + l) % 18446744073709551616) ((a + l) / 18446744073709551616) f a l c = some (shareOf a l p, 0) := by
    intro f hf hz
    subst hf
    simp only [tally_Share.j0, Bool.false_eq_true, ↓reduceIte]
    rw [bits_Mul64_ok ⟨a0, a1⟩ hp]
    simp only [Option.bind_some]
    have e : shareOf a l p = a * p / (a + l) := if_neg hz
    by_cases c1 : (a + l) / 18446744073709551616 = 0
    · have e2 : (a + l) % 18446744073709551616 = a + l := by omega
      rw [if_pos c1, e2, if_neg hz, tmod_nonneg_eq (by omega)]
      obtain ⟨r1, r2, r3⟩ := div_rest (n := a * p / 18446744073709551616) (y := a + l) (by omega)
      rw [Div64_ok k (by omega) _ _ _ r2 U64_lo' (by omega) r3]
      simp only [Option.bind_some]
      have q0 := div_nonneg (n := a * p / 18446744073709551616) (by omega) (by omega : 0 < a + l)
      have lt : a * p / 18446744073709551616 / (a + l) = 0 := by
        have h1 : a * p < 18446744073709551616 * (a + l) := by
          have : a * p ≤ (a + l) * p := Int.mul_le_mul_of_nonneg_right (by omega) hp.1
          have h2 : (a + l) * p < (a + l) * 18446744073709551616 := Int.mul_lt_mul_of_pos_left hp.2 (by omega)
          omega
        refine Int.ediv_eq_zero_of_lt (by omega) ?_
        omega
      rw [lt, Int.zero_mul, Int.zero_add] at r1
      rw [r1, e]
      congr 2
      congr 1
      omega
    · have e1 : (a + l) / 18446744073709551616 = 1 := by omega
      rw [if_neg c1, e1]
      have h := Share_loop ((a + l) % 18446744073709551616) (a * p / 18446744073709551616) (a * p % 18446744073709551616) (a * p) (shareOf a l p) ⟨by omega, by omega⟩ ⟨by omega, by omega⟩ ⟨by omega, by omega⟩ (by omega)
        (by rw [e]; congr 1; omega) (by have := hp.2; omega) 128 k (by omega) (by omega)
      have z : a * p / 2 ^ 128 = 0 := Int.ediv_eq_zero_of_lt m.1 (by have := m.2; show _ < (340282366920938463463374607431768211456 : Int); omega)
      rw [z, Int.zero_ediv, Int.zero_emod] at h
      exact h
  by_cases z : (a + l) % 18446744073709551616 = 0
  · rw [if_pos z]
    by_cases z2 : a + l = 0
    · rw [z2]
      simp only [tally_Share.j0]
      unfold shareOf
      rw [if_pos z2]
      rfl
    · exact go _ (by rw [beq_eq_false_iff_ne]; omega) z2
  · rw [if_neg z]
    exact go _ rfl (by omega)
/-- The sum of two numbers, or the greatest number. -/
def sat (a b : Int) : Int := if a + b < 18446744073709551616 then a + b else 18446744073709551615
section
variable {a b c : Int}
theorem U64_one : U64 1 := ⟨by decide, by decide⟩
theorem U64_of_U32 (h : U32 a) : U64 a := by obtain ⟨_, _⟩ := h; exact ⟨by omega, by omega⟩
theorem tally_add_ok (ha : U64 a) (hb : U64 b) : tally_add.f a b = some (sat a b) := by
  obtain ⟨_, _⟩ := ha; obtain ⟨_, _⟩ := hb
  unfold tally_add.f bits_Add64.f sat
  rw [if_pos ⟨by omega, by omega, by omega, by omega⟩]
  simp only [Option.bind_some]
  by_cases c : a + b < 18446744073709551616
  · rw [if_neg (by omega), if_pos c]
    congr 1
    omega
  · rw [if_pos (by omega), if_neg c]
theorem ref_plus_ok (ha : U64 a) (hb : U64 b) : spigotref21_plus.f a b = some (sat a b) := by
  obtain ⟨_, _⟩ := ha; obtain ⟨_, _⟩ := hb
  unfold spigotref21_plus.f sat
  rw [wrap_id ⟨by omega, by omega⟩]
  by_cases c : a + b < 18446744073709551616
  · rw [if_neg (by omega), if_pos c, wrap_id ⟨by omega, by omega⟩]
  · rw [if_pos (by omega), if_neg c]
end
section
variable {a0 a1 a2 b0 b1 b2 c : Int}
theorem tally_Add_ok (h0 : U64 a0) (h1 : U64 a1) (h2 : U64 a2) (g0 : U64 b0) (g1 : U64 b1) (g2 : U64 b2) : tally_Add.f a0 a1 a2 b0 b1 b2 = some (sat a0 b0, sat a1 b1, sat a2 b2) := by
  unfold tally_Add.f
  rw [tally_add_ok h0 g0, tally_add_ok h1 g1, tally_add_ok h2 g2]
  rfl
theorem ref21_Add_ok (h0 : U64 a0) (h1 : U64 a1) (h2 : U64 a2) (g0 : U64 b0) (g1 : U64 b1) (g2 : U64 b2) : spigotref21_Add.f a0 a1 a2 b0 b1 b2 = some (sat a0 b0, sat a1 b1, sat a2 b2) := by
  unfold spigotref21_Add.f
  rw [ref_plus_ok h0 g0, ref_plus_ok h1 g1, ref_plus_ok h2 g2]
  rfl
theorem tally_Count_yes (h0 : U64 a0) (h2 : U64 a2) (hc : U32 c) : tally_Count.f a0 a1 a2 true c = some (sat a0 1, a1, sat a2 c) := by
  unfold tally_Count.f
  rw [if_pos rfl, wrap_id (U64_of_U32 hc), tally_add_ok h0 U64_one, tally_add_ok h2 (U64_of_U32 hc)]
  rfl
theorem tally_Count_no (h1 : U64 a1) : tally_Count.f a0 a1 a2 false c = some (a0, sat a1 1, a2) := by
  unfold tally_Count.f
  rw [if_neg (by decide), tally_add_ok h1 U64_one]
  rfl
end
def V6 (x0 x1 x2 x3 x4 x5 : Int) : Int := x0 + 4294967296 * x1 + 18446744073709551616 * x2 + 79228162514264337593543950336 * x3 + 340282366920938463463374607431768211456 * x4 + 1461501637330902918203684832716283019655932542976 * x5
def L6 (x0 x1 x2 x3 x4 x5 : Int) : Prop := (0 ≤ x0 ∧ x0 < 4294967296) ∧ (0 ≤ x1 ∧ x1 < 4294967296) ∧ (0 ≤ x2 ∧ x2 < 4294967296) ∧ (0 ≤ x3 ∧ x3 < 4294967296) ∧ (0 ≤ x4 ∧ x4 < 4294967296) ∧ (0 ≤ x5 ∧ x5 < 4294967296)
theorem cstep {x y : Int} (h0 : 0 ≤ x) (h1 : x < 18446744073709551616) (g0 : 0 ≤ y) (g1 : y < 9223372036854775808) : IntKind.u64.wrap (y + IntKind.u64.wrap (Int.tdiv x 4294967296)) = y + x / 4294967296 := by
  rw [tdiv_nonneg_eq h0, wrap_id (x := x / 4294967296) ⟨by omega, by omega⟩, wrap_id ⟨by omega, by omega⟩]
theorem carried_ok {x0 x1 x2 x3 x4 x5 : Int} (h0 : 0 ≤ x0 ∧ x0 < 9223372036854775808) (h1 : 0 ≤ x1 ∧ x1 < 9223372036854775808) (h2 : 0 ≤ x2 ∧ x2 < 9223372036854775808) (h3 : 0 ≤ x3 ∧ x3 < 9223372036854775808) (h4 : 0 ≤ x4 ∧ x4 < 9223372036854775808) (h5 : 0 ≤ x5 ∧ x5 < 9223372036854775808)
    (hv : V6 x0 x1 x2 x3 x4 x5 < 6277101735386680763835789423207666416102355444464034512896) : ∃ r0 r1 r2 r3 r4 r5, spigotref21_carried.f x0 x1 x2 x3 x4 x5 = some (r0, r1, r2, r3, r4, r5) ∧ L6 r0 r1 r2 r3 r4 r5 ∧ V6 r0 r1 r2 r3 r4 r5 = V6 x0 x1 x2 x3 x4 x5 := by
  have e1 := cstep (x := x0) (y := x1) h0.1 (by omega) h1.1 h1.2
  obtain ⟨y1, d1⟩ : ∃ y, y = x1 + x0 / 4294967296 := ⟨_, rfl⟩
  have e2 := cstep (x := y1) (y := x2) (by omega) (by omega) h2.1 h2.2
  obtain ⟨y2, d2⟩ : ∃ y, y = x2 + y1 / 4294967296 := ⟨_, rfl⟩
  have e3 := cstep (x := y2) (y := x3) (by omega) (by omega) h3.1 h3.2
  obtain ⟨y3, d3⟩ : ∃ y, y = x3 + y2 / 4294967296 := ⟨_, rfl⟩
  have e4 := cstep (x := y3) (y := x4) (by omega) (by omega) h4.1 h4.2
  obtain ⟨y4, d4⟩ : ∃ y, y = x4 + y3 / 4294967296 := ⟨_, rfl⟩
  have e5 := cstep (x := y4) (y := x5) (by omega) (by omega) h5.1 h5.2
  unfold spigotref21_carried.f
  rw [e1, ← d1, e2, ← d2, e3, ← d3, e4, ← d4, e5, tmod_nonneg_eq h0.1, tmod_nonneg_eq (by omega : 0 ≤ y1), tmod_nonneg_eq (by omega : 0 ≤ y2), tmod_nonneg_eq (by omega : 0 ≤ y3), tmod_nonneg_eq (by omega : 0 ≤ y4)]
  unfold V6 at hv
  refine ⟨_, _, _, _, _, _, rfl, ?_, ?_⟩
  · unfold L6
    exact ⟨⟨by omega, by omega⟩, ⟨by omega, by omega⟩, ⟨by omega, by omega⟩, ⟨by omega, by omega⟩, ⟨by omega, by omega⟩, ⟨by omega, by omega⟩⟩
  · unfold V6
    omega
theorem made_ok {n : Int} (h : U64 n) : spigotref21_Made.f n = some (n % 4294967296, n / 4294967296, 0, 0, 0, 0) := by
  obtain ⟨_, _⟩ := h
  unfold spigotref21_Made.f
  rw [tmod_nonneg_eq (by omega), tdiv_nonneg_eq (by omega), wrap_id ⟨by omega, by omega⟩]
theorem made_V {n : Int} (h : U64 n) : L6 (n % 4294967296) (n / 4294967296) 0 0 0 0 ∧ V6 (n % 4294967296) (n / 4294967296) 0 0 0 0 = n := by
  obtain ⟨_, _⟩ := h
  unfold L6 V6
  omega
theorem plus_ok {a0 a1 a2 a3 a4 a5 b0 b1 b2 b3 b4 b5 : Int} (ha : L6 a0 a1 a2 a3 a4 a5) (hb : L6 b0 b1 b2 b3 b4 b5) (hv : V6 a0 a1 a2 a3 a4 a5 + V6 b0 b1 b2 b3 b4 b5 < 6277101735386680763835789423207666416102355444464034512896) :
    ∃ r0 r1 r2 r3 r4 r5, spigotref21_Plus.f a0 a1 a2 a3 a4 a5 b0 b1 b2 b3 b4 b5 = some (r0, r1, r2, r3, r4, r5) ∧ L6 r0 r1 r2 r3 r4 r5 ∧ V6 r0 r1 r2 r3 r4 r5 = V6 a0 a1 a2 a3 a4 a5 + V6 b0 b1 b2 b3 b4 b5 := by
  unfold L6 at ha hb
  obtain ⟨⟨_, _⟩, ⟨_, _⟩, ⟨_, _⟩, ⟨_, _⟩, ⟨_, _⟩, ⟨_, _⟩⟩ := ha
  obtain ⟨⟨_, _⟩, ⟨_, _⟩, ⟨_, _⟩, ⟨_, _⟩, ⟨_, _⟩, ⟨_, _⟩⟩ := hb
  have ev : V6 (a0 + b0) (a1 + b1) (a2 + b2) (a3 + b3) (a4 + b4) (a5 + b5) = V6 a0 a1 a2 a3 a4 a5 + V6 b0 b1 b2 b3 b4 b5 := by unfold V6; omega
  obtain ⟨r0, r1, r2, r3, r4, r5, e, hr, hs⟩ := carried_ok (x0 := a0 + b0) (x1 := a1 + b1) (x2 := a2 + b2) (x3 := a3 + b3) (x4 := a4 + b4) (x5 := a5 + b5) ⟨by omega, by omega⟩ ⟨by omega, by omega⟩ ⟨by omega, by omega⟩ ⟨by omega, by omega⟩ ⟨by omega, by omega⟩ ⟨by omega, by omega⟩ (by rw [ev]; exact hv)
  refine ⟨r0, r1, r2, r3, r4, r5, ?_, hr, by rw [hs, ev]⟩
  unfold spigotref21_Plus.f
  rw [wrap_id ⟨by omega, by omega⟩, wrap_id ⟨by omega, by omega⟩, wrap_id ⟨by omega, by omega⟩, wrap_id ⟨by omega, by omega⟩, wrap_id ⟨by omega, by omega⟩, wrap_id ⟨by omega, by omega⟩]
  exact e
theorem atmost_ok {a0 a1 a2 a3 a4 a5 b0 b1 b2 b3 b4 b5 : Int} (ha : L6 a0 a1 a2 a3 a4 a5) (hb : L6 b0 b1 b2 b3 b4 b5) :
    ∃ r, spigotref21_AtMost.f a0 a1 a2 a3 a4 a5 b0 b1 b2 b3 b4 b5 = some r ∧ (r = true ↔ V6 a0 a1 a2 a3 a4 a5 ≤ V6 b0 b1 b2 b3 b4 b5) := by
  unfold L6 at ha hb
  obtain ⟨⟨_, _⟩, ⟨_, _⟩, ⟨_, _⟩, ⟨_, _⟩, ⟨_, _⟩, ⟨_, _⟩⟩ := ha
  obtain ⟨⟨_, _⟩, ⟨_, _⟩, ⟨_, _⟩, ⟨_, _⟩, ⟨_, _⟩, ⟨_, _⟩⟩ := hb
  unfold spigotref21_AtMost.f V6
  by_cases c5 : a5 = b5
  · rw [if_pos c5]
    by_cases c4 : a4 = b4
    · rw [if_pos c4]
      by_cases c3 : a3 = b3
      · rw [if_pos c3]
        by_cases c2 : a2 = b2
        · rw [if_pos c2]
          by_cases c1 : a1 = b1
          · rw [if_pos c1]
            by_cases c0 : a0 = b0
            · rw [if_pos c0]
              exact ⟨true, rfl, fun _ => by omega, fun _ => rfl⟩
            · rw [if_neg c0]
              refine ⟨_, rfl, ?_⟩
              rw [decide_eq_true_iff]
              omega
          · rw [if_neg c1]
            refine ⟨_, rfl, ?_⟩
            rw [decide_eq_true_iff]
            omega
        · rw [if_neg c2]
          refine ⟨_, rfl, ?_⟩
          rw [decide_eq_true_iff]
          omega
      · rw [if_neg c3]
        refine ⟨_, rfl, ?_⟩
        rw [decide_eq_true_iff]
        omega
    · rw [if_neg c4]
      refine ⟨_, rfl, ?_⟩
      rw [decide_eq_true_iff]
      omega
  · rw [if_neg c5]
    refine ⟨_, rfl, ?_⟩
    rw [decide_eq_true_iff]
    omega
theorem vmul (a0 a1 a2 b0 b1 b2 : Int) : V6 a0 a1 a2 0 0 0 * V6 b0 b1 b2 0 0 0 = a0 * b0 + 4294967296 * (a0 * b1 + a1 * b0) + 18446744073709551616 * (a0 * b2 + a1 * b1 + a2 * b0) + 79228162514264337593543950336 * (a1 * b2 + a2 * b1) + 340282366920938463463374607431768211456 * (a2 * b2) := by
  unfold V6
  grind
theorem pm_ {p : Int} (h0 : 0 ≤ p) (h1 : p < 18446744073709551616) : Int.tmod (IntKind.u64.wrap p) 4294967296 = p % 4294967296 ∧ IntKind.u64.wrap (Int.tdiv (IntKind.u64.wrap p) 4294967296) = p / 4294967296 := by
  rw [wrap_id ⟨h0, h1⟩, tmod_nonneg_eq h0, tdiv_nonneg_eq h0, wrap_id (x := p / 4294967296) ⟨by omega, by omega⟩]
  exact ⟨rfl, rfl⟩
theorem times_ok {a0 a1 a2 b0 b1 b2 : Int} (ha : L6 a0 a1 a2 0 0 0) (hb : L6 b0 b1 b2 0 0 0) :
    ∃ r0 r1 r2 r3 r4 r5, spigotref21_Times.f a0 a1 a2 0 0 0 b0 b1 b2 0 0 0 = some (r0, r1, r2, r3, r4, r5) ∧ L6 r0 r1 r2 r3 r4 r5 ∧ V6 r0 r1 r2 r3 r4 r5 = V6 a0 a1 a2 0 0 0 * V6 b0 b1 b2 0 0 0 := by
  rw [vmul]
  unfold L6 at ha hb
  obtain ⟨⟨x0, x0'⟩, ⟨x1, x1'⟩, ⟨x2, x2'⟩, _⟩ := ha
  obtain ⟨⟨y0, y0'⟩, ⟨y1, y1'⟩, ⟨y2, y2'⟩, _⟩ := hb
  have bd : ∀ x y : Int, 0 ≤ x → x < 4294967296 → 0 ≤ y → y < 4294967296 → 0 ≤ x * y ∧ x * y ≤ 18446744065119617025 := fun x y h0 h1 h2 h3 => mul_bd h0 (by omega : x ≤ 4294967295) h2 (by omega : y ≤ 4294967295)
  have q00 := bd _ _ x0 x0' y0 y0'
  have q01 := bd _ _ x0 x0' y1 y1'
  have q02 := bd _ _ x0 x0' y2 y2'
  have q10 := bd _ _ x1 x1' y0 y0'
  have q11 := bd _ _ x1 x1' y1 y1'
  have q12 := bd _ _ x1 x1' y2 y2'
  have q20 := bd _ _ x2 x2' y0 y0'
  have q21 := bd _ _ x2 x2' y1 y1'
  have q22 := bd _ _ x2 x2' y2 y2'
  unfold spigotref21_Times.f
  generalize a0 * b0 = p00 at *
  generalize a0 * b1 = p01 at *
  generalize a0 * b2 = p02 at *
  generalize a1 * b0 = p10 at *
  generalize a1 * b1 = p11 at *
  generalize a1 * b2 = p12 at *
  generalize a2 * b0 = p20 at *
  generalize a2 * b1 = p21 at *
  generalize a2 * b2 = p22 at *
  clear x0 x0' x1 x1' x2 x2' y0 y0' y1 y1' y2 y2' bd
  obtain ⟨m00, d00⟩ := pm_ q00.1 (by omega)
  obtain ⟨m01, d01⟩ := pm_ q01.1 (by omega)
  obtain ⟨m02, d02⟩ := pm_ q02.1 (by omega)
  obtain ⟨m10, d10⟩ := pm_ q10.1 (by omega)
  obtain ⟨m11, d11⟩ := pm_ q11.1 (by omega)
  obtain ⟨m12, d12⟩ := pm_ q12.1 (by omega)
  obtain ⟨m20, d20⟩ := pm_ q20.1 (by omega)
  obtain ⟨m21, d21⟩ := pm_ q21.1 (by omega)
  obtain ⟨m22, d22⟩ := pm_ q22.1 (by omega)
  rw [m00, d00, m01, d01, m02, d02, m10, d10, m11, d11, m12, d12, m20, d20, m21, d21, m22, d22]
  clear m00 d00 m01 d01 m02 d02 m10 d10 m11 d11 m12 d12 m20 d20 m21 d21 m22 d22
  rw [wrap_id (x := p00 % 4294967296) ⟨by omega, by omega⟩, wrap_id (x := p00 / 4294967296) ⟨by omega, by omega⟩, wrap_id (x := p01 / 4294967296) ⟨by omega, by omega⟩, wrap_id (x := p02 / 4294967296) ⟨by omega, by omega⟩,
    wrap_id (x := p00 / 4294967296 + p01 % 4294967296) ⟨by omega, by omega⟩, wrap_id (x := p01 / 4294967296 + p02 % 4294967296) ⟨by omega, by omega⟩]
  obtain ⟨c0, c1, c2, c3, c4, c5, e1, hc, vc⟩ := carried_ok (x0 := p00 % 4294967296) (x1 := p00 / 4294967296 + p01 % 4294967296) (x2 := p01 / 4294967296 + p02 % 4294967296) (x3 := p02 / 4294967296) (x4 := 0) (x5 := 0)
    ⟨by omega, by omega⟩ ⟨by omega, by omega⟩ ⟨by omega, by omega⟩ ⟨by omega, by omega⟩ ⟨by omega, by omega⟩ ⟨by omega, by omega⟩ (by unfold V6; omega)
  rw [e1]
  simp only [Option.bind_some]
  have vc' : V6 c0 c1 c2 c3 c4 c5 = p00 + 4294967296 * p01 + 18446744073709551616 * p02 := by rw [vc]; unfold V6; omega
  clear vc e1
  unfold L6 at hc
  obtain ⟨⟨_, _⟩, ⟨_, _⟩, ⟨_, _⟩, ⟨_, _⟩, ⟨_, _⟩, ⟨_, _⟩⟩ := hc
  rw [wrap_id (x := c1 + p10 % 4294967296) ⟨by omega, by omega⟩, wrap_id (x := c2 + p10 / 4294967296) ⟨by omega, by omega⟩, wrap_id (x := c3 + p11 / 4294967296) ⟨by omega, by omega⟩, wrap_id (x := c4 + p12 / 4294967296) ⟨by omega, by omega⟩,
    wrap_id (x := c2 + p10 / 4294967296 + p11 % 4294967296) ⟨by omega, by omega⟩, wrap_id (x := c3 + p11 / 4294967296 + p12 % 4294967296) ⟨by omega, by omega⟩]
  have w2 : V6 c0 (c1 + p10 % 4294967296) (c2 + p10 / 4294967296 + p11 % 4294967296) (c3 + p11 / 4294967296 + p12 % 4294967296) (c4 + p12 / 4294967296) c5 = p00 + 4294967296 * (p01 + p10) + 18446744073709551616 * (p02 + p11) + 79228162514264337593543950336 * p12 := by
    unfold V6 at vc' ⊢
    omega
  obtain ⟨g0, g1, g2, g3, g4, g5, e2, hg, vg⟩ := carried_ok (x0 := c0) (x1 := c1 + p10 % 4294967296) (x2 := c2 + p10 / 4294967296 + p11 % 4294967296) (x3 := c3 + p11 / 4294967296 + p12 % 4294967296) (x4 := c4 + p12 / 4294967296) (x5 := c5)
    ⟨by omega, by omega⟩ ⟨by omega, by omega⟩ ⟨by omega, by omega⟩ ⟨by omega, by omega⟩ ⟨by omega, by omega⟩ ⟨by omega, by omega⟩ (by rw [w2]; omega)
  rw [e2]
  simp only [Option.bind_some]
  rw [w2] at vg
  clear w2 e2 vc'
  unfold L6 at hg
  obtain ⟨⟨_, _⟩, ⟨_, _⟩, ⟨_, _⟩, ⟨_, _⟩, ⟨_, _⟩, ⟨_, _⟩⟩ := hg
  rw [wrap_id (x := g2 + p20 % 4294967296) ⟨by omega, by omega⟩, wrap_id (x := g3 + p20 / 4294967296) ⟨by omega, by omega⟩, wrap_id (x := g4 + p21 / 4294967296) ⟨by omega, by omega⟩, wrap_id (x := g5 + p22 / 4294967296) ⟨by omega, by omega⟩,
    wrap_id (x := g3 + p20 / 4294967296 + p21 % 4294967296) ⟨by omega, by omega⟩, wrap_id (x := g4 + p21 / 4294967296 + p22 % 4294967296) ⟨by omega, by omega⟩]
  have w3 : V6 g0 g1 (g2 + p20 % 4294967296) (g3 + p20 / 4294967296 + p21 % 4294967296) (g4 + p21 / 4294967296 + p22 % 4294967296) (g5 + p22 / 4294967296) = p00 + 4294967296 * (p01 + p10) + 18446744073709551616 * (p02 + p11 + p20) + 79228162514264337593543950336 * (p12 + p21) + 340282366920938463463374607431768211456 * p22 := by
    unfold V6 at vg ⊢
    omega
  obtain ⟨r0, r1, r2, r3, r4, r5, e3, hr, vr⟩ := carried_ok (x0 := g0) (x1 := g1) (x2 := g2 + p20 % 4294967296) (x3 := g3 + p20 / 4294967296 + p21 % 4294967296) (x4 := g4 + p21 / 4294967296 + p22 % 4294967296) (x5 := g5 + p22 / 4294967296)
    ⟨by omega, by omega⟩ ⟨by omega, by omega⟩ ⟨by omega, by omega⟩ ⟨by omega, by omega⟩ ⟨by omega, by omega⟩ ⟨by omega, by omega⟩ (by rw [w3]; omega)
  exact ⟨r0, r1, r2, r3, r4, r5, e3, hr, by rw [vr, w3]⟩
/-! #### the quotient, bit by bit -/
def bt : Nat → Int
  | 0 => 0
  | m + 1 => 2 ^ m
theorem bt_half {m : Nat} (h : m ≤ 63) : IntKind.u64.wrap (Int.tdiv (2 ^ m) 2) = bt m := by
  have h0 := two_pow_pos m
  have h1 : (2 : Int) ^ m ≤ 2 ^ 63 := two_pow_le h
  have e63 : (2 : Int) ^ 63 = 9223372036854775808 := by decide
  rw [tdiv_nonneg_eq (by omega), wrap_id ⟨by omega, by omega⟩]
  cases m with
  | zero => rfl
  | succ n =>
    have e : bt (n + 1) = 2 ^ n := rfl
    rw [e, Int.pow_succ]
    omega
theorem share_loop {a0 a1 a2 h0 h1 h2 h3 h4 h5 : Int} (ha : L6 a0 a1 a2 0 0 0) (hh : L6 h0 h1 h2 h3 h4 h5) (hp : 0 < V6 a0 a1 a2 0 0 0) : ∀ (m k : Nat) (q : Int), m ≤ 64 → m + 1 ≤ k → 0 ≤ q → q + 2 ^ m ≤ 18446744073709551616 →
    q * V6 a0 a1 a2 0 0 0 ≤ V6 h0 h1 h2 h3 h4 h5 → V6 h0 h1 h2 h3 h4 h5 < (q + 2 ^ m) * V6 a0 a1 a2 0 0 0 → spigotref21_Share.l0 k q (bt m) a0 a1 a2 0 0 0 h0 h1 h2 h3 h4 h5 = some (V6 h0 h1 h2 h3 h4 h5 / V6 a0 a1 a2 0 0 0, 0) := by
  intro m
  induction m with
  | zero =>
    intro k q hm hk hq hb l1 l2
    obtain ⟨k, rfl⟩ : ∃ m, k = m + 1 := ⟨k - 1, by omega⟩
    rw [show bt 0 = 0 from rfl]
    simp only [spigotref21_Share.l0]
    rw [if_neg (by decide)]
    rw [Int.pow_zero, Int.add_mul, Int.one_mul] at l2
    rw [(div_uniq l1 l2).1]
  | succ m ih =>
    intro k q hm hk hq hb l1 l2
    obtain ⟨k, rfl⟩ : ∃ m, k = m + 1 := ⟨k - 1, by omega⟩
    have p0 := two_pow_pos m
    have e2 : (2 : Int) ^ (m + 1) = 2 ^ m + 2 ^ m := by rw [Int.pow_succ]; omega
    rw [e2] at hb l2
    have un : U64 (q + 2 ^ m) := ⟨by omega, by omega⟩
    obtain ⟨lm, vm⟩ := made_V un
    obtain ⟨r0, r1, r2, r3, r4, r5, et, hr, vt⟩ := times_ok ha lm
    obtain ⟨b, eb, hb'⟩ := atmost_ok hr hh
    rw [vt, vm, Int.mul_comm] at hb'
    have hbt : bt (m + 1) = 2 ^ m := rfl
    simp only [spigotref21_Share.l0]
    rw [hbt, if_pos (by omega), wrap_id un, made_ok un]
    simp only [Option.bind_some]
    rw [et]
    simp only [Option.bind_some]
    rw [eb]
    simp only [Option.bind_some]
    rw [bt_half (by omega)]
    by_cases c : b = true
    · rw [if_pos c]
      exact ih k (q + 2 ^ m) (by omega) (by omega) (by omega) (by omega) (hb'.1 c) (by rw [Int.add_assoc]; exact l2)
    · rw [if_neg c]
      exact ih k q (by omega) (by omega) hq (by omega) l1 (Int.lt_of_not_ge fun h => c (hb'.2 h))
theorem refShare_ok (k : Nat) (hk : 100 ≤ k) {a l c p : Int} (ha : U64 a) (hl : U64 l) (hp : U64 p) : spigotref21_Share.f k a l c p = some (shareOf a l p, 0) := by
  have ga := ha
  have gl := hl
  have gp := hp
  obtain ⟨_, _⟩ := ga
  obtain ⟨_, _⟩ := gl
  obtain ⟨_, _⟩ := gp
  obtain ⟨la, va⟩ := made_V ha
  obtain ⟨ll, vl⟩ := made_V hl
  obtain ⟨lp, vp⟩ := made_V hp
  obtain ⟨r0, r1, r2, r3, r4, r5, er, hr, vr⟩ := plus_ok la ll (by rw [va, vl]; omega)
  rw [va, vl] at vr
  unfold spigotref21_Share.f
  rw [made_ok ha, made_ok hl]
  simp only [Option.bind_some]
  rw [er]
  simp only [Option.bind_some]
  have hr' := hr
  have vr' := vr
  unfold L6 at hr'
  unfold V6 at vr'
  unfold shareOf
  by_cases z : a + l = 0
  · have z0 : r0 = 0 := by omega
    have z1 : r1 = 0 := by omega
    have z2 : r2 = 0 := by omega
    have z3 : r3 = 0 := by omega
    have z4 : r4 = 0 := by omega
    have z5 : r5 = 0 := by omega
    rw [if_pos (by simp [z0, z1, z2, z3, z4, z5]), if_pos z]
  · have z3 : r3 = 0 := by omega
    have z4 : r4 = 0 := by omega
    have z5 : r5 = 0 := by omega
    rw [if_neg (by
      simp only [Bool.and_eq_true, beq_iff_eq]
      intro h
      omega), if_neg z, made_ok hp]
    simp only [Option.bind_some]
    obtain ⟨t0, t1, t2, t3, t4, t5, et, ht, vt⟩ := times_ok la lp
    rw [et]
    simp only [Option.bind_some]
    rw [va, vp] at vt
    subst z3 z4 z5
    have e64 : (2 : Int) ^ 64 = 18446744073709551616 := by decide
    have m0 := Int.mul_nonneg (by omega : 0 ≤ a) (by omega : 0 ≤ p)
    have m1 := Int.mul_le_mul_of_nonneg_left (by omega : p ≤ 18446744073709551615) (by omega : 0 ≤ a)
    have e := share_loop hr ht (by rw [vr]; omega) 64 k 0 (by omega) (by omega) (by omega) (by rw [e64]; omega) (by rw [Int.zero_mul, vt]; exact m0) (by rw [e64, vt, vr]; omega)
    rw [show bt 64 = 9223372036854775808 by decide, vt, vr] at e
    exact e
theorem refCount_yes {a0 a1 a2 c : Int} (h0 : U64 a0) (h2 : U64 a2) (hc : U32 c) : spigotref21_Count.f a0 a1 a2 true c = some (sat a0 1, a1, sat a2 c) := by
  obtain ⟨_, _⟩ := h0
  obtain ⟨_, _⟩ := h2
  obtain ⟨_, _⟩ := hc
  unfold spigotref21_Count.f spigotref18_Counted.f sat
  rw [if_pos rfl, wrap_id (x := c) ⟨by omega, by omega⟩, wrap_id (x := 18446744073709551615 - a2) ⟨by omega, by omega⟩]
  by_cases u : a0 < 18446744073709551615
  · have u' : a0 + 1 < 18446744073709551616 := by omega
    rw [if_pos u, if_pos u', wrap_id (x := a0 + 1) ⟨by omega, by omega⟩]
    by_cases v : 18446744073709551615 - a2 < c
    · have v' : ¬ a2 + c < 18446744073709551616 := by omega
      rw [if_pos v, if_neg v']
      rfl
    · have v' : a2 + c < 18446744073709551616 := by omega
      rw [if_neg v, if_pos v', wrap_id (x := a2 + c) ⟨by omega, by omega⟩]
      rfl
  · have e0 : a0 = 18446744073709551615 := by omega
    have u' : ¬ a0 + 1 < 18446744073709551616 := by omega
    rw [if_neg u, if_neg u']
    by_cases v : 18446744073709551615 - a2 < c
    · have v' : ¬ a2 + c < 18446744073709551616 := by omega
      rw [if_pos v, if_neg v', e0]
      rfl
    · have v' : a2 + c < 18446744073709551616 := by omega
      rw [if_neg v, if_pos v', wrap_id (x := a2 + c) ⟨by omega, by omega⟩, e0]
      rfl
theorem refCount_no {a0 a1 a2 c : Int} (h1 : U64 a1) : spigotref21_Count.f a0 a1 a2 false c = some (a0, sat a1 1, a2) := by
  obtain ⟨_, _⟩ := h1
  unfold spigotref21_Count.f spigotref18_Counted.f sat
  rw [if_neg (by decide)]
  split
  · rw [wrap_id (x := a1 + 1) ⟨by omega, by omega⟩, if_pos (by omega)]
    rfl
  · have e0 : a1 = 18446744073709551615 := by omega
    rw [if_neg (by omega), e0]
    rfl
theorem TallyDoes_pure (a0 a1 a2 b0 b1 b2 : Int) (x : Bool) (c p : Int) (h0 : U64 a0) (h1 : U64 a1) (h2 : U64 a2) (g0 : U64 b0) (g1 : U64 b1) (g2 : U64 b2) (hc : U32 c) (hp : U64 p) : ∃ k, spigotlaw21_TallyDoes.f k a0 a1 a2 b0 b1 b2 x c p = some true := by
  refine ⟨400, ?_⟩
  unfold spigotlaw21_TallyDoes.f
  rw [Share_ok 400 (by omega) h0 h1 hp, refShare_ok 400 (by omega) h0 h1 hp, tally_Add_ok h0 h1 h2 g0 g1 g2, ref21_Add_ok h0 h1 h2 g0 g1 g2]
  cases x with
  | true =>
    rw [tally_Count_yes h0 h2 hc, refCount_yes h0 h2 hc]
    simp
  | false =>
    rw [tally_Count_no h1, refCount_no h1]
    simp
end Go.Proofs.Ytcdmjdghmbdikaa.X
