/- CurveBelow, and what it needs. -/
import Derived.Test.YtimhghmfhfggoaaX0
import Derived.Test.YtimhghmfhfggoaaX3
import Derived.Test.YtimhghmfhfggoaaX4
import Derived.Test.YtimhghmfhfggoaaX5
import Derived.Test.YtimhghmfhfggoaaX6
import Derived.Test.YtimhghmfhfggoaaX7
import Derived.Test.YtimhghmfhfggoaaX8
import Derived.Test.YtimhghmfhfggoaaX9
import Derived.Test.YtimhghmfhfggoaaX10
import Derived.Test.YtimhghmfhfggoaaX11
import Derived.Test.YtimhghmfhfggoaaX12
import Derived.Test.YtimhghmfhfggoaaX13
import Derived.Test.YtimhghmfhfggoaaX14
import Derived.Test.YtimhghmfhfggoaaX15
import Derived.Test.YtimhghmfhfggoaaX16
import Derived.Test.YtimhghmfhfggoaaX17
import Derived.Test.YtimhghmfhfggoaaX18
import Derived.Test.YtimhghmfhfggoaaX19
import Derived.Test.YtimhghmfhfggoaaX20
import Derived.Test.YtimhghmfhfggoaaX21
import Derived.Test.YtimhghmfhfggoaaX23
import Derived.Test.YtimhghmfhfggoaaX26
import Derived.Test.YtimhghmfhfggoaaX27
import Derived.Test.YtimhghmfhfggoaaX28
import Derived.Test.YtimhghmfhfggoaaX29
import Derived.Test.YtimhghmfhfggoaaX30
import Derived.Test.YtimhghmfhfggoaaX31
import Derived.Test.YtimhghmfhfggoaaX32
import Derived.Test.YtimhghmfhfggoaaX33
import Derived.Test.YtimhghmfhfggoaaX34
import Derived.Test.YtimhghmfhfggoaaX35
import Derived.Test.YtimhghmfhfggoaaX36
import Derived.Test.YtimhghmfhfggoaaMath
namespace Go.Proofs.Ytimhghmfhfggoaa.X
open Go.RowKit Go.Proofs.YtimhghmfhfggoaaW.PrintWords Go.Proofs.YtimhghmfhfggoaaW.PrintLast Go.Proofs.YtimhghmfhfggoaaW.PrintMore
set_option linter.unusedVariables false
set_option linter.unusedSimpArgs false

theorem wj {j : Nat} (h : j < 9223372036854775807) : wrap64 ((j : Int) + 1) = ((j + 1 : Nat) : Int) := by unfold wrap64; omega
theorem rd_at {l : List Int} {j : Nat} (h : j < l.length) : rd l (j : Int) = l[j] := by
  unfold rd
  rw [List.getD_eq_getElem?_getD, Int.toNat_natCast, List.getElem?_eq_getElem h]
  rfl
/-- What is written at place j, when what stands ahead of j has been written. -/
theorem set_walk {α : Type} (f : α → α) (l : List α) {j : Nat} (h : j < l.length) : ((l.map f).take j ++ l.drop j).set j (f l[j]) = (l.map f).take (j + 1) ++ l.drop (j + 1) := by
  have h1 : ((l.map f).take j).length = j := by rw [List.length_take, List.length_map]; omega
  rw [List.set_append_right _ _ (by omega), h1, Nat.sub_self, List.drop_eq_getElem_cons h, List.set_cons_zero]
  have h2 : (l.map f).take (j + 1) = (l.map f).take j ++ [f l[j]] := by
    rw [List.take_add_one, List.getElem?_eq_getElem (by rw [List.length_map]; exact h), List.getElem_map]
    rfl
  rw [h2, List.append_assoc]
  rfl
theorem walk_get {α : Type} (f : α → α) (l : List α) {j : Nat} (h : j < l.length) (h' : j < ((l.map f).take j ++ l.drop j).length) : ((l.map f).take j ++ l.drop j)[j] = l[j] := by
  have h1 : ((l.map f).take j).length = j := by rw [List.length_take, List.length_map]; omega
  rw [List.getElem_append_right (by omega)]
  simp [h1]
theorem walk_len {α : Type} (f : α → α) (l : List α) (j : Nat) (h : j ≤ l.length) : ((l.map f).take j ++ l.drop j).length = l.length := by
  rw [List.length_append, List.length_take, List.length_map, List.length_drop]
  omega
theorem take_push {α : Type} (l : List α) {j : Nat} (h : j < l.length) : l.take j ++ [l[j]] = l.take (j + 1) := by
  rw [List.take_add_one, List.getElem?_eq_getElem h]
  rfl
/-- From the table: how many bits a byte needs. -/
theorem tab_byte (b : Nat) (hb : b < 256) (h0 : 0 < b) : ∃ t : Nat, 1 ≤ t ∧ t ≤ 8 ∧ 2 ^ (t - 1) ≤ b ∧ b < 2 ^ t ∧ bt (⟨#[0, 1, 2, 2, 3, 3, 3, 3, 4, 4, 4, 4, 4, 4, 4, 4, 5, 5, 5, 5, 5, 5, 5, 5, 5, 5, 5, 5, 5, 5, 5, 5, 6, 6, 6, 6, 6, 6, 6, 6, 6, 6, 6, 6, 6, 6, 6, 6, 6, 6, 6, 6, 6, 6, 6, 6, 6, 6, 6, 6, 6, 6, 6, 6, 7, 7, 7, 7, 7, 7, 7, 7, 7, 7, 7, 7, 7, 7, 7, 7, 7, 7, 7, 7, 7, 7, 7, 7, 7, 7, 7, 7, 7, 7, 7, 7, 7, 7, 7, 7, 7, 7, 7, 7, 7, 7, 7, 7, 7, 7, 7, 7, 7, 7, 7, 7, 7, 7, 7, 7, 7, 7, 7, 7, 7, 7, 7, 7, 8, 8, 8, 8, 8, 8, 8, 8, 8, 8, 8, 8, 8, 8, 8, 8, 8, 8, 8, 8, 8, 8, 8, 8, 8, 8, 8, 8, 8, 8, 8, 8, 8, 8, 8, 8, 8, 8, 8, 8, 8, 8, 8, 8, 8, 8, 8, 8, 8, 8, 8, 8, 8, 8, 8, 8, 8, 8, 8, 8, 8, 8, 8, 8, 8, 8, 8, 8, 8, 8, 8, 8, 8, 8, 8, 8, 8, 8, 8, 8, 8, 8, 8, 8, 8, 8, 8, 8, 8, 8, 8, 8, 8, 8, 8, 8, 8, 8, 8, 8, 8, 8, 8, 8, 8, 8, 8, 8, 8, 8, 8, 8, 8, 8, 8, 8, 8, 8, 8, 8, 8, 8, 8, 8, 8, 8, 8, 8]⟩ : ByteArray) (b : Int) = (t : Int) := by
  have h : ∀ b : Fin 256, 0 < b.val → ∃ t : Fin 9, 1 ≤ t.val ∧ 2 ^ (t.val - 1) ≤ b.val ∧ b.val < 2 ^ t.val ∧ bt (⟨#[0, 1, 2, 2, 3, 3, 3, 3, 4, 4, 4, 4, 4, 4, 4, 4, 5, 5, 5, 5, 5, 5, 5, 5, 5, 5, 5, 5, 5, 5, 5, 5, 6, 6, 6, 6, 6, 6, 6, 6, 6, 6, 6, 6, 6, 6, 6, 6, 6, 6, 6, 6, 6, 6, 6, 6, 6, 6, 6, 6, 6, 6, 6, 6, 7, 7, 7, 7, 7, 7, 7, 7, 7, 7, 7, 7, 7, 7, 7, 7, 7, 7, 7, 7, 7, 7, 7, 7, 7, 7, 7, 7, 7, 7, 7, 7, 7, 7, 7, 7, 7, 7, 7, 7, 7, 7, 7, 7, 7, 7, 7, 7, 7, 7, 7, 7, 7, 7, 7, 7, 7, 7, 7, 7, 7, 7, 7, 7, 8, 8, 8, 8, 8, 8, 8, 8, 8, 8, 8, 8, 8, 8, 8, 8, 8, 8, 8, 8, 8, 8, 8, 8, 8, 8, 8, 8, 8, 8, 8, 8, 8, 8, 8, 8, 8, 8, 8, 8, 8, 8, 8, 8, 8, 8, 8, 8, 8, 8, 8, 8, 8, 8, 8, 8, 8, 8, 8, 8, 8, 8, 8, 8, 8, 8, 8, 8, 8, 8, 8, 8, 8, 8, 8, 8, 8, 8, 8, 8, 8, 8, 8, 8, 8, 8, 8, 8, 8, 8, 8, 8, 8, 8, 8, 8, 8, 8, 8, 8, 8, 8, 8, 8, 8, 8, 8, 8, 8, 8, 8, 8, 8, 8, 8, 8, 8, 8, 8, 8, 8, 8, 8, 8, 8, 8, 8, 8]⟩ : ByteArray) (b.val : Int) = (t.val : Int) := by decide +kernel
  obtain ⟨t, h1, h2, h3, h4⟩ := h ⟨b, hb⟩ h0
  exact ⟨t.val, h1, by omega, h2, h3, h4⟩
/-- How many bits a number needs, behind a shift by m. -/
theorem bits_shift {x b : Int} {t m : Nat} (hb : b = x / 2 ^ m) (h1 : 1 ≤ t) (h2 : (2 : Int) ^ (t - 1) ≤ b) (h3 : b < 2 ^ t) : (2 : Int) ^ (t + m - 1) ≤ x ∧ x < 2 ^ (t + m) := by
  subst hb
  obtain ⟨d1, d2⟩ := div_bd (n := x) (two_pow_pos m)
  have e1 := two_pow_split (t - 1) m (t + m - 1) (by omega)
  have e2 := two_pow_split t m (t + m) rfl
  have k1 := Int.mul_le_mul_of_nonneg_right h2 (Int.le_of_lt (two_pow_pos m))
  have k2 : x / 2 ^ m * 2 ^ m + 2 ^ m ≤ 2 ^ t * 2 ^ m := by
    have : (x / 2 ^ m + 1) * 2 ^ m ≤ 2 ^ t * 2 ^ m := Int.mul_le_mul_of_nonneg_right (by omega) (Int.le_of_lt (two_pow_pos m))
    rw [Int.add_mul, Int.one_mul] at this
    exact this
  omega
set_option maxRecDepth 100000 in
theorem Len64_j0 (k : Nat) (x o : Int) (m : Nat) (ho : o = m) (hm : m ≤ 32) (h0 : 0 < x) (h1 : x < 4294967296) :
    ∃ t : Nat, 1 ≤ t ∧ t ≤ 32 ∧ bits_Len64.j0 (k + 1) x o = some ((t + m : Nat) : Int) ∧ (2 : Int) ^ (t - 1) ≤ x ∧ x < 2 ^ t := by
  rw [bits_Len64.j0]
  have key : ∀ (b : Int) (s : Nat), b = x / 2 ^ s → 0 < b → b < 256 → s ≤ 24 → ∃ t : Nat, 1 ≤ t ∧ t ≤ 8 ∧ bt (⟨#[0, 1, 2, 2, 3, 3, 3, 3, 4, 4, 4, 4, 4, 4, 4, 4, 5, 5, 5, 5, 5, 5, 5, 5, 5, 5, 5, 5, 5, 5, 5, 5, 6, 6, 6, 6, 6, 6, 6, 6, 6, 6, 6, 6, 6, 6, 6, 6, 6, 6, 6, 6, 6, 6, 6, 6, 6, 6, 6, 6, 6, 6, 6, 6, 7, 7, 7, 7, 7, 7, 7, 7, 7, 7, 7, 7, 7, 7, 7, 7, 7, 7, 7, 7, 7, 7, 7, 7, 7, 7, 7, 7, 7, 7, 7, 7, 7, 7, 7, 7, 7, 7, 7, 7, 7, 7, 7, 7, 7, 7, 7, 7, 7, 7, 7, 7, 7, 7, 7, 7, 7, 7, 7, 7, 7, 7, 7, 7, 8, 8, 8, 8, 8, 8, 8, 8, 8, 8, 8, 8, 8, 8, 8, 8, 8, 8, 8, 8, 8, 8, 8, 8, 8, 8, 8, 8, 8, 8, 8, 8, 8, 8, 8, 8, 8, 8, 8, 8, 8, 8, 8, 8, 8, 8, 8, 8, 8, 8, 8, 8, 8, 8, 8, 8, 8, 8, 8, 8, 8, 8, 8, 8, 8, 8, 8, 8, 8, 8, 8, 8, 8, 8, 8, 8, 8, 8, 8, 8, 8, 8, 8, 8, 8, 8, 8, 8, 8, 8, 8, 8, 8, 8, 8, 8, 8, 8, 8, 8, 8, 8, 8, 8, 8, 8, 8, 8, 8, 8, 8, 8, 8, 8, 8, 8, 8, 8, 8, 8, 8, 8, 8, 8, 8, 8, 8, 8]⟩ : ByteArray) b = (t : Int) ∧ (2 : Int) ^ (t + s - 1) ≤ x ∧ x < 2 ^ (t + s) := by
    intro b s hb b0 b1 hs
    obtain ⟨c, rfl⟩ := Int.eq_ofNat_of_zero_le (Int.le_of_lt b0)
    obtain ⟨t, t1, t2, t3, t4, t5⟩ := tab_byte c (by omega) (by omega)
    obtain ⟨e1, e2⟩ := bits_shift (x := x) (b := c) (t := t) (m := s) hb t1 (by exact_mod_cast t3) (by exact_mod_cast t4)
    exact ⟨t, t1, t2, t5, e1, e2⟩
  by_cases c1 : x ≥ 65536
  · rw [if_pos c1]
    by_cases c2 : x / 65536 ≥ 256
    · rw [if_pos c2, if_pos (by omega), if_pos (by omega)]
      obtain ⟨t, t1, t2, t3, t4, t5⟩ := key (x / 65536 / 256 % 256) 24 (by rw [Int.emod_eq_of_lt (by omega) (by omega), show ((2 : Int) ^ 24) = 16777216 from rfl]; omega) (by omega) (by omega) (by omega)
      refine ⟨t + 24, by omega, by omega, ?_, t4, t5⟩
      rw [t3, ho, wrap64_id (x := (m : Int) + 16) (by omega) (by omega), wrap64_id (x := (m : Int) + 16 + 8) (by omega) (by omega), wrap64_id (x := (t : Int)) (by omega) (by omega), wrap64_id (by omega) (by omega)]
      congr 1
      omega
    · rw [if_neg c2, if_pos (by omega), if_pos (by omega)]
      obtain ⟨t, t1, t2, t3, t4, t5⟩ := key (x / 65536 % 256) 16 (by rw [Int.emod_eq_of_lt (by omega) (by omega), show ((2 : Int) ^ 16) = 65536 from rfl]) (by omega) (by omega) (by omega)
      refine ⟨t + 16, by omega, by omega, ?_, t4, t5⟩
      rw [t3, ho, wrap64_id (x := (m : Int) + 16) (by omega) (by omega), wrap64_id (x := (t : Int)) (by omega) (by omega), wrap64_id (by omega) (by omega)]
      congr 1
      omega
  · rw [if_neg c1]
    by_cases c2 : x ≥ 256
    · rw [if_pos c2, if_pos (by omega), if_pos (by omega)]
      obtain ⟨t, t1, t2, t3, t4, t5⟩ := key (x / 256 % 256) 8 (by rw [Int.emod_eq_of_lt (by omega) (by omega), show ((2 : Int) ^ 8) = 256 from rfl]) (by omega) (by omega) (by omega)
      refine ⟨t + 8, by omega, by omega, ?_, t4, t5⟩
      rw [t3, ho, wrap64_id (x := (m : Int) + 8) (by omega) (by omega), wrap64_id (x := (t : Int)) (by omega) (by omega), wrap64_id (by omega) (by omega)]
      congr 1
      omega
    · rw [if_neg c2, if_pos (by omega), if_pos (by omega)]
      obtain ⟨t, t1, t2, t3, t4, t5⟩ := key (x % 256) 0 (by rw [Int.emod_eq_of_lt (by omega) (by omega)]; simp) (by omega) (by omega) (by omega)
      refine ⟨t, by omega, by omega, ?_, t4, t5⟩
      rw [t3, ho, wrap64_id (x := (t : Int)) (by omega) (by omega), wrap64_id (by omega) (by omega)]
      congr 1
      omega
theorem Len64_ok (k : Nat) (x : Int) (h0 : 0 < x) (h1 : x < 18446744073709551616) :
    ∃ t : Nat, 1 ≤ t ∧ t ≤ 64 ∧ bits_Len64.f (k + 1) x = some (t : Int) ∧ (2 : Int) ^ (t - 1) ≤ x ∧ x < 2 ^ t := by
  unfold bits_Len64.f
  by_cases c : x ≥ 4294967296
  · rw [if_pos c]
    obtain ⟨t, t1, t2, t3, t4, t5⟩ := Len64_j0 k (x / 4294967296) 32 32 rfl (by omega) (by omega) (by omega)
    obtain ⟨e1, e2⟩ := bits_shift (x := x) (b := x / 4294967296) (t := t) (m := 32) (by rw [show ((2 : Int) ^ 32) = 4294967296 from rfl]) t1 t4 t5
    exact ⟨t + 32, by omega, by omega, t3, e1, e2⟩
  · rw [if_neg c]
    obtain ⟨t, t1, t2, t3, t4, t5⟩ := Len64_j0 k x 0 0 rfl (by omega) h0 (by omega)
    exact ⟨t, by omega, by omega, t3, t4, t5⟩
theorem LeadingZeros64_ok (k : Nat) (x : Int) (h0 : 0 < x) (h1 : x < 18446744073709551616) :
    ∃ s : Nat, s ≤ 63 ∧ bits_LeadingZeros64.f (k + 1) x = some (s : Int) ∧ (9223372036854775808 : Int) ≤ x * 2 ^ s ∧ x * 2 ^ s < 18446744073709551616 := by
  obtain ⟨t, t1, t2, t3, t4, t5⟩ := Len64_ok k x h0 h1
  refine ⟨64 - t, by omega, ?_, ?_, ?_⟩
  · unfold bits_LeadingZeros64.f
    rw [t3]
    simp only [Option.bind_some]
    rw [wrap64_id (by omega) (by omega)]
    congr 1
    omega
  · have e := two_pow_split (t - 1) (64 - t) 63 (by omega)
    have k1 := Int.mul_le_mul_of_nonneg_right t4 (Int.le_of_lt (two_pow_pos (64 - t)))
    rw [e] at k1
    exact k1
  · have e := two_pow_split t (64 - t) 64 (by omega)
    have k1 := Int.mul_lt_mul_of_pos_right t5 (two_pow_pos (64 - t))
    rw [e] at k1
    exact k1

/-! #### the loops of Div64: a guessed digit is lowered until it is the digit -/
section
variable {y yn1 yn0 u v q r : Int}
theorem kn_eq (hy : y = yn1 * 4294967296 + yn0) : q * y = q * yn1 * 4294967296 + q * yn0 := by rw [hy, Int.mul_add, Int.mul_assoc]
theorem kn_dec (hy : y = yn1 * 4294967296 + yn0) (hu0 : 0 ≤ u) (hu : u < y) (hv0 : 0 ≤ v) (hv : v < 4294967296) (hq : u = q * yn1 + r) (hq0 : 0 ≤ q) (hc : q ≥ 4294967296 ∨ q * yn0 > 4294967296 * r + v) : u * 4294967296 + v < q * y ∧ 1 ≤ q := by
  have e := kn_eq (q := q) hy
  have h : u * 4294967296 + v < q * y := by
    rcases hc with h | h
    · have := Int.mul_le_mul_of_nonneg_right h (by omega : 0 ≤ y)
      omega
    · omega
  refine ⟨h, ?_⟩
  rcases Int.lt_or_le 0 q with h' | h'
  · omega
  · have : q = 0 := by omega
    subst this
    rw [Int.zero_mul] at h
    omega
theorem kn_low (hy : y = yn1 * 4294967296 + yn0) (hu : u < y) (hu0 : 0 ≤ u) (hv : v < 4294967296) (hq : q * y ≤ u * 4294967296 + v) : q < 4294967296 := by
  rcases Int.lt_or_le q 4294967296 with h | h
  · exact h
  · have := Int.mul_le_mul_of_nonneg_right h (by omega : 0 ≤ y)
    omega
theorem kn_brk (hy : y = yn1 * 4294967296 + yn0) (h2 : 0 ≤ yn0) (h2' : yn0 < 4294967296) (hv0 : 0 ≤ v) (hq : u = q * yn1 + r) (hq0 : 0 ≤ q) (hq1 : q ≤ 4294967296) (hr : 4294967296 ≤ r) : q * y ≤ u * 4294967296 + v := by
  have e := kn_eq (q := q) hy
  have h := (mul_bd hq0 hq1 h2 (by omega : yn0 ≤ 4294967295)).2
  omega
end

theorem Div64_l0 (y s yn1 yn0 u v un0 : Int) (hy : y = yn1 * 4294967296 + yn0) (h1 : 2147483648 ≤ yn1) (h1' : yn1 < 4294967296) (h2 : 0 ≤ yn0) (h2' : yn0 < 4294967296) (hu0 : 0 ≤ u) (hu : u < y) (hv0 : 0 ≤ v) (hv : v < 4294967296) :
    ∀ (d k : Nat) (q r : Int), 2 * d + 2 ≤ k → 4294967296 ≤ r + d * 2147483648 → 0 ≤ r → r < 4294967296 → u = q * yn1 + r → 0 ≤ q → q ≤ 4294967297 → u * 4294967296 + v < q * y + y →
    ∃ k' q', k ≤ k' + (2 * d + 2) ∧ bits_Div64.l0 k y s yn1 yn0 u v un0 q r = bits_Div64.j2 k' y s yn1 yn0 u v un0 q' ∧ 0 ≤ q' ∧ q' < 4294967296 ∧ q' * y ≤ u * 4294967296 + v ∧ u * 4294967296 + v < q' * y + y := by
  intro d
  induction d with
  | zero => intro k q r _ h; intros; omega
  | succ d ih =>
    intro k q r hk hd hr0 hr hq hq0 hq1 hlt
    obtain ⟨k, rfl⟩ : ∃ m, k = m + 2 := ⟨k - 2, by omega⟩
    have dec : q ≥ 4294967296 ∨ q * yn0 > 4294967296 * r + v → ∃ k' q', k + 2 ≤ k' + (2 * (d + 1) + 2) ∧ bits_Div64.j1 (k + 1) y s yn1 yn0 u v un0 q r true = bits_Div64.j2 k' y s yn1 yn0 u v un0 q' ∧ 0 ≤ q' ∧ q' < 4294967296 ∧ q' * y ≤ u * 4294967296 + v ∧ u * 4294967296 + v < q' * y + y := by
      intro hc
      obtain ⟨g1, g2⟩ := kn_dec hy hu0 hu hv0 hv hq hq0 hc
      have e1 : (q - 1) * y = q * y - y := by rw [Int.sub_mul, Int.one_mul]
      have e2 : (q - 1) * yn1 = q * yn1 - yn1 := by rw [Int.sub_mul, Int.one_mul]
      simp only [bits_Div64.j1, ↓reduceIte]
      rw [wrap_id (x := q - 1) ⟨by omega, by omega⟩, wrap_id (x := r + yn1) ⟨by omega, by omega⟩]
      by_cases c : r + yn1 ≥ 4294967296
      · rw [if_pos c]
        have b := kn_brk (q := q - 1) (r := r + yn1) (u := u) (v := v) hy h2 h2' hv0 (by omega) (by omega) (by omega) c
        exact ⟨k, q - 1, by omega, rfl, by omega, kn_low hy hu hu0 hv b, b, by omega⟩
      · rw [if_neg c]
        obtain ⟨k', q', a1, a2, a3⟩ := ih k (q - 1) (r + yn1) (by omega) (by omega) (by omega) (by omega) (by omega) (by omega) (by omega) (by omega)
        exact ⟨k', q', by omega, a2, a3⟩
    simp only [bits_Div64.l0]
    by_cases c1 : q ≥ 4294967296
    · rw [if_pos c1]
      exact dec (.inl c1)
    · rw [if_neg c1]
      have b1 := mul_bd hq0 (by omega : q ≤ 4294967295) h2 (by omega : yn0 ≤ 4294967295)
      rw [wrap_id (x := q * yn0) ⟨by omega, by omega⟩, wrap_id (x := 4294967296 * r) ⟨by omega, by omega⟩, wrap_id (x := 4294967296 * r + v) ⟨by omega, by omega⟩]
      by_cases c2 : q * yn0 > 4294967296 * r + v
      · rw [decide_eq_true c2]
        exact dec (.inr c2)
      · rw [decide_eq_false c2]
        simp only [bits_Div64.j1, Bool.false_eq_true, ↓reduceIte]
        have e := kn_eq (q := q) hy
        exact ⟨k, q, by omega, rfl, hq0, by omega, by omega, hlt⟩
theorem Div64_l1 (y s yn1 yn0 u v q1 : Int) (hy : y = yn1 * 4294967296 + yn0) (h1 : 2147483648 ≤ yn1) (h1' : yn1 < 4294967296) (h2 : 0 ≤ yn0) (h2' : yn0 < 4294967296) (hu0 : 0 ≤ u) (hu : u < y) (hv0 : 0 ≤ v) (hv : v < 4294967296) (hs : 0 ≤ s) :
    ∀ (d k : Nat) (q r : Int), 2 * d + 2 ≤ k → 4294967296 ≤ r + d * 2147483648 → 0 ≤ r → r < 4294967296 → u = q * yn1 + r → 0 ≤ q → q ≤ 4294967297 → u * 4294967296 + v < q * y + y →
    ∃ q', bits_Div64.l1 k y s yn1 yn0 v q1 r u q = some (IntKind.u64.wrap (IntKind.u64.wrap (q1 * 4294967296) + q'), shr .u64 (IntKind.u64.wrap (IntKind.u64.wrap (IntKind.u64.wrap (u * 4294967296) + v) - IntKind.u64.wrap (q' * y))) s) ∧ 0 ≤ q' ∧ q' < 4294967296 ∧ q' * y ≤ u * 4294967296 + v ∧ u * 4294967296 + v < q' * y + y := by
  intro d
  induction d with
  | zero => intro k q r _ h; intros; omega
  | succ d ih =>
    intro k q r hk hd hr0 hr hq hq0 hq1 hlt
    obtain ⟨k, rfl⟩ : ∃ m, k = m + 2 := ⟨k - 2, by omega⟩
    have dec : q ≥ 4294967296 ∨ q * yn0 > 4294967296 * r + v → ∃ q', bits_Div64.j4 (k + 1) y s yn1 yn0 v q1 r u q true = some (IntKind.u64.wrap (IntKind.u64.wrap (q1 * 4294967296) + q'), shr .u64 (IntKind.u64.wrap (IntKind.u64.wrap (IntKind.u64.wrap (u * 4294967296) + v) - IntKind.u64.wrap (q' * y))) s) ∧ 0 ≤ q' ∧ q' < 4294967296 ∧ q' * y ≤ u * 4294967296 + v ∧ u * 4294967296 + v < q' * y + y := by
      intro hc
      obtain ⟨g1, g2⟩ := kn_dec hy hu0 hu hv0 hv hq hq0 hc
      have e1 : (q - 1) * y = q * y - y := by rw [Int.sub_mul, Int.one_mul]
      have e2 : (q - 1) * yn1 = q * yn1 - yn1 := by rw [Int.sub_mul, Int.one_mul]
      simp only [bits_Div64.j4, ↓reduceIte]
      rw [wrap_id (x := q - 1) ⟨by omega, by omega⟩, wrap_id (x := r + yn1) ⟨by omega, by omega⟩]
      by_cases c : r + yn1 ≥ 4294967296
      · rw [if_pos c, if_pos hs]
        have b := kn_brk (q := q - 1) (r := r + yn1) (u := u) (v := v) hy h2 h2' hv0 (by omega) (by omega) (by omega) c
        exact ⟨q - 1, rfl, by omega, kn_low hy hu hu0 hv b, b, by omega⟩
      · rw [if_neg c]
        exact ih k (q - 1) (r + yn1) (by omega) (by omega) (by omega) (by omega) (by omega) (by omega) (by omega) (by omega)
    simp only [bits_Div64.l1]
    by_cases c1 : q ≥ 4294967296
    · rw [if_pos c1]
      exact dec (.inl c1)
    · rw [if_neg c1]
      have b1 := mul_bd hq0 (by omega : q ≤ 4294967295) h2 (by omega : yn0 ≤ 4294967295)
      rw [wrap_id (x := q * yn0) ⟨by omega, by omega⟩, wrap_id (x := 4294967296 * r) ⟨by omega, by omega⟩, wrap_id (x := 4294967296 * r + v) ⟨by omega, by omega⟩]
      by_cases c2 : q * yn0 > 4294967296 * r + v
      · rw [decide_eq_true c2]
        exact dec (.inr c2)
      · rw [decide_eq_false c2]
        simp only [bits_Div64.j4, Bool.false_eq_true, ↓reduceIte]
        rw [if_pos hs]
        have e := kn_eq (q := q) hy
        exact ⟨q, rfl, hq0, by omega, by omega, hlt⟩
/-- bits.Div64, where the quotient fits: the quotient and the rest. -/
theorem Div64_ok (k : Nat) (hk : 20 ≤ k) (hi lo y : Int) (h0 : 0 ≤ hi) (hl : U64 lo) (hy : y < 18446744073709551616) (hlt : hi < y) :
    bits_Div64.f k hi lo y = some ((hi * 18446744073709551616 + lo) / y, (hi * 18446744073709551616 + lo) % y) := by
  obtain ⟨hl0, hl1⟩ := hl
  unfold bits_Div64.f
  rw [if_neg (by omega), if_neg (by omega)]
  by_cases c0 : hi = 0
  · subst c0
    rw [if_pos rfl, tdiv_nonneg_eq hl0, tmod_nonneg_eq hl0, wrap_id ⟨div_nonneg hl0 (by omega), ?_⟩]
    · simp
    · have := div_le hl0 (by omega : 0 < y)
      omega
  · rw [if_neg c0]
    obtain ⟨k, rfl⟩ : ∃ m, k = m + 1 := ⟨k - 1, by omega⟩
    obtain ⟨s, s1, s2, s3, s4⟩ := LeadingZeros64_ok k y (by omega) hy
    rw [s2]
    simp only [Option.bind_some]
    have P0 := two_pow_pos s
    have R0 := two_pow_pos (64 - s)
    have PR := two_pow_split s (64 - s) 64 (by omega)
    rw [show ((2 : Int) ^ 64) = 18446744073709551616 from rfl] at PR
    rw [wrap_id (x := (s : Int)) ⟨by omega, by omega⟩, wrap_id (x := 64 - (s : Int)) ⟨by omega, by omega⟩, if_pos (by omega), if_pos (by omega)]
    have es : (min ((s : Int).toNat) IntKind.u64.bits) = s := by simp [IntKind.bits] <;> omega
    have es' : (min ((64 - (s : Int)).toNat) IntKind.u64.bits) = 64 - s := by simp [IntKind.bits] <;> omega
    have eY : shl .u64 y (s : Int) = y * 2 ^ s := by unfold shl; rw [es, wrap_id ⟨by omega, s4⟩]
    have eH0 : hi * 2 ^ s ≤ y * 2 ^ s - 2 ^ s := by
      have := Int.mul_le_mul_of_nonneg_right (by omega : hi + 1 ≤ y) (Int.le_of_lt P0)
      rw [Int.add_mul, Int.one_mul] at this
      omega
    have eH1 : 0 ≤ hi * 2 ^ s := Int.mul_nonneg h0 (Int.le_of_lt P0)
    have eH : shl .u64 hi (s : Int) = hi * 2 ^ s := by unfold shl; rw [es, wrap_id ⟨eH1, by omega⟩]
    have eL : shr .u64 lo (64 - (s : Int)) = lo / 2 ^ (64 - s) := by unfold shr; rw [es']
    have eLl : lo / 2 ^ (64 - s) < 2 ^ s := div_lt R0 (by rw [PR]; exact hl1)
    have eL0 : 0 ≤ lo / 2 ^ (64 - s) := div_nonneg hl0 R0
    have eU : Go.bits .or .u64 (hi * 2 ^ s) (lo / 2 ^ (64 - s)) = hi * 2 ^ s + lo / 2 ^ (64 - s) :=
      bits_join .u64 64 (by decide) (fun n a b => wrap_id ⟨a, b⟩) s _ _ eH1 (Int.mul_emod_left _ _) (by show _ < (18446744073709551616 : Int); omega) eL0 eLl (by show _ < (18446744073709551616 : Int); omega)
    obtain ⟨d1, d2, d3⟩ := div_rest (n := lo) R0
    have eLo : lo * 2 ^ s = lo / 2 ^ (64 - s) * 18446744073709551616 + lo % 2 ^ (64 - s) * 2 ^ s := by
      conv => lhs; rw [← d1, Int.add_mul, Int.mul_assoc, Int.mul_comm (2 ^ (64 - s)), PR]
    have eR1 : lo % 2 ^ (64 - s) * 2 ^ s < 18446744073709551616 := by
      have := Int.mul_lt_mul_of_pos_right d3 P0
      rw [Int.mul_comm (2 ^ (64 - s)), PR] at this
      exact this
    have eR0 : 0 ≤ lo % 2 ^ (64 - s) * 2 ^ s := Int.mul_nonneg d2 (Int.le_of_lt P0)
    have eN : shl .u64 lo (s : Int) = lo % 2 ^ (64 - s) * 2 ^ s := by
      unfold shl
      rw [es, wrap_u64, eLo]
      omega
    have eA : Go.bits .and .u64 (y * 2 ^ s) 4294967295 = y * 2 ^ s % 4294967296 :=
      bits_mask .u64 64 (by decide) (fun n a b => wrap_id ⟨a, b⟩) 32 (by decide) _ (by omega) (by show _ < (18446744073709551616 : Int); omega)
    have eB : Go.bits .and .u64 (lo % 2 ^ (64 - s) * 2 ^ s) 4294967295 = lo % 2 ^ (64 - s) * 2 ^ s % 4294967296 :=
      bits_mask .u64 64 (by decide) (fun n a b => wrap_id ⟨a, b⟩) 32 (by decide) _ eR0 (by show _ < (18446744073709551616 : Int); omega)
    rw [eY, eH, eL, eN, eU, eA, eB]
    have eT : (hi * 18446744073709551616 + lo) * 2 ^ s = (hi * 2 ^ s + lo / 2 ^ (64 - s)) * 18446744073709551616 + lo % 2 ^ (64 - s) * 2 ^ s := by
      rw [Int.add_mul, eLo, Int.add_mul, Int.mul_assoc, Int.mul_comm 18446744073709551616 (2 ^ s), ← Int.mul_assoc]
      omega
    obtain ⟨z1, z2⟩ := div_scale (n := hi * 18446744073709551616 + lo) (y := y) P0 (by omega)
    rw [← z1, eT] at *
    generalize hU : hi * 2 ^ s + lo / 2 ^ (64 - s) = U at *
    generalize hV : lo % 2 ^ (64 - s) * 2 ^ s = V at *
    generalize hY : y * 2 ^ s = Y at *
    have hUY : U < Y := by omega
    have hU0 : 0 ≤ U := by omega
    have y1 : Y = Y / 4294967296 * 4294967296 + Y % 4294967296 := by omega
    rw [if_neg (by omega)]
    have n1 : 0 < Y / 4294967296 := by omega
    obtain ⟨g1, g2, g3⟩ := div_rest (n := U) n1
    have gq : U / (Y / 4294967296) < 4294967298 := div_lt n1 (by omega)
    have gq0 := div_nonneg hU0 n1
    rw [tdiv_nonneg_eq hU0, wrap_id (x := U / (Y / 4294967296)) ⟨gq0, by omega⟩]
    have gp0 : 0 ≤ U / (Y / 4294967296) * (Y / 4294967296) := Int.mul_nonneg gq0 (by omega)
    rw [wrap_id (x := U / (Y / 4294967296) * (Y / 4294967296)) ⟨gp0, by omega⟩, wrap_id (x := U - U / (Y / 4294967296) * (Y / 4294967296)) ⟨by omega, by omega⟩]
    have start : ∀ (u v : Int), 0 ≤ u → u < Y → 0 ≤ v → v < 4294967296 → u * 4294967296 + v < u / (Y / 4294967296) * Y + Y := by
      intro u v hu0 huY hv0 hv
      obtain ⟨f1, f2, f3⟩ := div_rest (n := u) n1
      have e := kn_eq (q := u / (Y / 4294967296)) y1
      have := Int.mul_nonneg (div_nonneg hu0 n1) (by omega : 0 ≤ Y % 4294967296)
      omega
    obtain ⟨k', q1, a1, a2, a3, a4, a5, a6⟩ := Div64_l0 Y s (Y / 4294967296) (Y % 4294967296) U (V / 4294967296) (V % 4294967296) y1 (by omega) (by omega) (by omega) (by omega) hU0 hUY (by omega) (by omega) 2 (k + 1) (U / (Y / 4294967296)) (U - U / (Y / 4294967296) * (Y / 4294967296)) (by omega) (by omega) (by omega) (by omega) (by omega) gq0 (by omega) (start U _ hU0 hUY (by omega) (by omega))
    rw [a2]
    obtain ⟨k', rfl⟩ : ∃ m, k' = m + 1 := ⟨k' - 1, by omega⟩
    simp only [bits_Div64.j2]
    rw [if_neg (by omega)]
    have w1 : IntKind.u64.wrap (IntKind.u64.wrap (IntKind.u64.wrap (U * 4294967296) + V / 4294967296) - IntKind.u64.wrap (q1 * Y)) = U * 4294967296 + V / 4294967296 - q1 * Y := by
      simp only [wrap_u64]
      omega
    rw [w1]
    generalize hu2 : U * 4294967296 + V / 4294967296 - q1 * Y = u2 at *
    obtain ⟨b1, b2, b3⟩ := div_rest (n := u2) n1
    have bq : u2 / (Y / 4294967296) < 4294967298 := div_lt n1 (by omega)
    have bq0 := div_nonneg (by omega : 0 ≤ u2) n1
    rw [tdiv_nonneg_eq (by omega : 0 ≤ u2), wrap_id (x := u2 / (Y / 4294967296)) ⟨bq0, by omega⟩]
    have bp0 : 0 ≤ u2 / (Y / 4294967296) * (Y / 4294967296) := Int.mul_nonneg bq0 (by omega)
    rw [wrap_id (x := u2 / (Y / 4294967296) * (Y / 4294967296)) ⟨bp0, by omega⟩, wrap_id (x := u2 - u2 / (Y / 4294967296) * (Y / 4294967296)) ⟨by omega, by omega⟩]
    obtain ⟨q0, c1, c2, c3, c4, c5⟩ := Div64_l1 Y s (Y / 4294967296) (Y % 4294967296) u2 (V % 4294967296) q1 y1 (by omega) (by omega) (by omega) (by omega) (by omega) (by omega) (by omega) (by omega) (by omega) 2 k' (u2 / (Y / 4294967296)) (u2 - u2 / (Y / 4294967296) * (Y / 4294967296)) (by omega) (by omega) (by omega) (by omega) (by omega) bq0 (by omega) (start u2 _ (by omega) (by omega) (by omega) (by omega))
    rw [c1]
    have eq : (q1 * 4294967296 + q0) * Y = q1 * Y * 4294967296 + q0 * Y := by
      rw [Int.add_mul, Int.mul_assoc, Int.mul_comm 4294967296 Y, ← Int.mul_assoc]
    obtain ⟨r1, r2⟩ := div_uniq (n := U * 18446744073709551616 + V) (y := Y) (q := q1 * 4294967296 + q0) (by omega) (by omega)
    have w2 : IntKind.u64.wrap (IntKind.u64.wrap (IntKind.u64.wrap (u2 * 4294967296) + V % 4294967296) - IntKind.u64.wrap (q0 * Y)) = u2 * 4294967296 + V % 4294967296 - q0 * Y := by
      simp only [wrap_u64]
      omega
    have w3 : IntKind.u64.wrap (IntKind.u64.wrap (q1 * 4294967296) + q0) = q1 * 4294967296 + q0 := by
      simp only [wrap_u64]
      omega
    rw [w2, w3, r1]
    have w4 : u2 * 4294967296 + V % 4294967296 - q0 * Y = (U * 18446744073709551616 + V) % Y := by rw [r2]; omega
    rw [w4, z2]
    unfold shr
    rw [es, Int.mul_ediv_cancel _ (by omega)]
/-- The number that two words stand for. -/
def wv (h l : Int) : Int := h * 18446744073709551616 + l
theorem wv_bd {h l : Int} (hh : U64 h) (hl : U64 l) : 0 ≤ wv h l ∧ wv h l < 340282366920938463463374607431768211456 := by
  obtain ⟨_, _⟩ := hh; obtain ⟨_, _⟩ := hl; unfold wv; omega
theorem wv_of {n : Int} : wv (n / 18446744073709551616) (n % 18446744073709551616) = n := by unfold wv; omega
theorem wv_zero {l : Int} : wv 0 l = l := by unfold wv; omega
theorem U64_hi {n : Int} (h0 : 0 ≤ n) (h1 : n < 340282366920938463463374607431768211456) : U64 (n / 18446744073709551616) := ⟨by omega, by omega⟩
theorem U64_lo {n : Int} : U64 (n % 18446744073709551616) := ⟨by omega, by omega⟩
theorem U64_zero : U64 0 := ⟨by decide, by decide⟩

section
variable {a0 a1 b0 b1 : Int}
theorem wide_Add_ok (h0 : U64 a0) (h1 : U64 a1) (h2 : U64 b0) (h3 : U64 b1) (h : wv a0 a1 + wv b0 b1 < 340282366920938463463374607431768211456) :
    wide_Add.f a0 a1 b0 b1 = some ((wv a0 a1 + wv b0 b1) / 18446744073709551616, (wv a0 a1 + wv b0 b1) % 18446744073709551616, 0) := by
  obtain ⟨_, _⟩ := h0; obtain ⟨_, _⟩ := h1; obtain ⟨_, _⟩ := h2; obtain ⟨_, _⟩ := h3
  unfold wv at *
  unfold wide_Add.f bits_Add64.f
  rw [if_pos ⟨by omega, by omega, by omega, by omega⟩]
  simp only [Option.bind_some]
  rw [if_pos ⟨by omega, by omega, by omega, by omega⟩]
  simp only [Option.bind_some]
  rw [if_pos (by omega)]
  congr 3 <;> omega
theorem wide_Small_ok (h0 : a0 = 0) : wide_Small.f a0 a1 = some (a1, 0) := by unfold wide_Small.f; rw [if_pos h0]
theorem wide_Small_err (h0 : a0 ≠ 0) : wide_Small.f a0 a1 = some (0, 16) := by unfold wide_Small.f; rw [if_neg h0]
theorem wide_Of_ok : wide_Of.f a0 = some (0, a0) := rfl
/-- The order of two numbers. -/
def wcmp (a b : Int) : Int := if a < b then -1 else if a = b then 0 else 1
theorem wcmp_neg {a b : Int} : wcmp a b < 0 ↔ a < b := by unfold wcmp; split <;> (try split) <;> omega
theorem wcmp_nonneg {a b : Int} : wcmp a b ≥ 0 ↔ b ≤ a := by unfold wcmp; split <;> (try split) <;> omega
theorem cmp_Compare_ok (a b : Int) : cmp_Compare_uint64.f a b = some (wcmp a b) := by
  unfold cmp_Compare_uint64.f cmp_isNaN_uint64.f wcmp
  have e : ∀ x : Int, (x != x) = false := fun x => by simp
  simp only [e, Option.bind_some]
  rw [if_neg (by decide), if_neg (by decide)]
  by_cases c : a < b
  · rw [if_pos c, if_pos c]
  · rw [if_neg c, if_neg c]
    by_cases d : a > b
    · rw [if_pos d, if_neg (by omega)]
    · rw [if_neg d, if_pos (by omega)]
theorem w01 : wrap64 (0 + 1) = 1 := by unfold wrap64; omega
theorem w11 : wrap64 (1 + 1) = 2 := by unfold wrap64; omega
theorem cmp_Or_two (k : Nat) (x y : Int) : cmp_Or_int.f (k + 3) [x, y] = some (if x = 0 then y else x) := by
  unfold cmp_Or_int.f
  simp only [cmp_Or_int.l0, List.length_cons, List.length_nil, w01, w11]
  have e0 : rd [x, y] 0 = x := rfl
  have e1 : rd [x, y] 1 = y := rfl
  rw [e0, e1, if_pos (by decide), if_pos (by decide), if_pos (by decide)]
  by_cases c : x = 0
  · rw [if_pos c, if_pos c, if_pos (by decide), if_pos (by decide), if_pos (by decide)]
    by_cases d : y = 0
    · rw [if_pos d, if_neg (by decide), d]
    · rw [if_neg d]
  · rw [if_neg c, if_neg c]
theorem wide_Cmp_ok (k : Nat) (h1 : U64 a1) (h3 : U64 b1) : wide_Cmp.f (k + 3) a0 a1 b0 b1 = some (wcmp (wv a0 a1) (wv b0 b1)) := by
  obtain ⟨_, _⟩ := h1; obtain ⟨_, _⟩ := h3
  unfold wide_Cmp.f
  rw [cmp_Compare_ok, cmp_Compare_ok]
  simp only [Option.bind_some, cmp_Or_two]
  congr 1
  unfold wcmp wv
  split <;> (try split) <;> (try split) <;> (try split) <;> (try split) <;> (try split) <;> omega
theorem ref_Cmp_ok (k : Nat) (h1 : U64 a1) (h3 : U64 b1) : spigotref01_Cmp.f (k + 1) a0 a1 b0 b1 = some (wcmp (wv a0 a1) (wv b0 b1)) := by
  obtain ⟨_, _⟩ := h1; obtain ⟨_, _⟩ := h3
  unfold spigotref01_Cmp.f
  simp only [spigotref01_Cmp.j0]
  unfold wcmp wv
  by_cases c : a0 < b0
  · rw [if_pos c]
    simp only [↓reduceIte]
    rw [if_pos (by omega)]
  · rw [if_neg c]
    by_cases d : a0 = b0
    · rw [if_pos d]
      by_cases e : a1 < b1
      · simp only [decide_eq_true e, ↓reduceIte]
        rw [if_pos (by omega)]
      · simp only [decide_eq_false e, Bool.false_eq_true, ↓reduceIte]
        rw [if_neg (c := a0 * 18446744073709551616 + a1 < b0 * 18446744073709551616 + b1) (by omega)]
        by_cases f : a1 = b1
        · rw [if_pos (by simp [d, f]), if_pos (by omega)]
        · rw [if_neg (by simp [d, f]), if_neg (by omega)]
    · simp only [if_neg d, Bool.false_eq_true, ↓reduceIte]
      rw [if_neg (by simp [d]), if_neg (by omega), if_neg (by omega)]
theorem ref_Less_ok (h0 : U64 a0) (h1 : U64 a1) (h2 : U64 b0) (h3 : U64 b1) (h : wv b0 b1 ≤ wv a0 a1) :
    spigotref01_Less.f a0 a1 b0 b1 = some ((wv a0 a1 - wv b0 b1) / 18446744073709551616, (wv a0 a1 - wv b0 b1) % 18446744073709551616) := by
  obtain ⟨_, _⟩ := h0; obtain ⟨_, _⟩ := h1; obtain ⟨_, _⟩ := h2; obtain ⟨_, _⟩ := h3
  unfold wv at *
  unfold spigotref01_Less.f
  simp only [wrap_u64]
  split <;> congr 2 <;> omega
end
theorem and_mask {x : Int} (h0 : 0 ≤ x) (h1 : x < 18446744073709551616) : Go.bits .and .u64 x 4294967295 = x % 4294967296 :=
  bits_mask .u64 64 (by decide) (fun n a b => wrap_id ⟨a, b⟩) 32 (by decide) x h0 h1
theorem and_one {x : Int} (h0 : 0 ≤ x) (h1 : x < 18446744073709551616) : Go.bits .and .u64 x 1 = x % 2 :=
  bits_mask .u64 64 (by decide) (fun n a b => wrap_id ⟨a, b⟩) 1 (by decide) x h0 h1
theorem mul_parts (x y : Int) : x * y = (x / 4294967296) * (y / 4294967296) * 18446744073709551616 + ((x / 4294967296) * (y % 4294967296) + (x % 4294967296) * (y / 4294967296)) * 4294967296 + (x % 4294967296) * (y % 4294967296) := by
  have hx : x = x / 4294967296 * 4294967296 + x % 4294967296 := by omega
  have hy : y = y / 4294967296 * 4294967296 + y % 4294967296 := by omega
  generalize x / 4294967296 = x1 at *
  generalize x % 4294967296 = x0 at *
  generalize y / 4294967296 = y1 at *
  generalize y % 4294967296 = y0 at *
  subst hx; subst hy
  rw [Int.add_mul, Int.mul_add, Int.mul_add]
  have e1 : x1 * 4294967296 * (y1 * 4294967296) = x1 * y1 * 18446744073709551616 := by
    rw [Int.mul_assoc, Int.mul_comm 4294967296 (y1 * 4294967296), Int.mul_assoc y1, ← Int.mul_assoc]; rfl
  have e2 : x1 * 4294967296 * y0 = x1 * y0 * 4294967296 := by rw [Int.mul_assoc, Int.mul_comm 4294967296, ← Int.mul_assoc]
  have e3 : x0 * (y1 * 4294967296) = x0 * y1 * 4294967296 := by rw [Int.mul_assoc]
  rw [e1, e2, e3]
  omega
section
variable {x y : Int}
theorem parts_bd (hx : U64 x) (hy : U64 y) :
    (0 ≤ (x / 4294967296) * (y / 4294967296) ∧ (x / 4294967296) * (y / 4294967296) ≤ 18446744065119617025) ∧ (0 ≤ (x / 4294967296) * (y % 4294967296) ∧ (x / 4294967296) * (y % 4294967296) ≤ 18446744065119617025) ∧
    (0 ≤ (x % 4294967296) * (y / 4294967296) ∧ (x % 4294967296) * (y / 4294967296) ≤ 18446744065119617025) ∧ (0 ≤ (x % 4294967296) * (y % 4294967296) ∧ (x % 4294967296) * (y % 4294967296) ≤ 18446744065119617025) := by
  obtain ⟨_, _⟩ := hx; obtain ⟨_, _⟩ := hy
  have b : ∀ a b : Int, 0 ≤ a → a ≤ 4294967295 → 0 ≤ b → b ≤ 4294967295 → 0 ≤ a * b ∧ a * b ≤ 18446744065119617025 := fun a b h0 h1 h2 h3 => mul_bd h0 h1 h2 h3
  exact ⟨b _ _ (by omega) (by omega) (by omega) (by omega), b _ _ (by omega) (by omega) (by omega) (by omega), b _ _ (by omega) (by omega) (by omega) (by omega), b _ _ (by omega) (by omega) (by omega) (by omega)⟩
theorem mul_U64_bd (hx : U64 x) (hy : U64 y) : 0 ≤ x * y ∧ x * y ≤ 340282366920938463426481119284349108225 := by
  obtain ⟨_, _⟩ := hx; obtain ⟨_, _⟩ := hy
  exact mul_bd (by assumption) (by omega : x ≤ 18446744073709551615) (by assumption) (by omega : y ≤ 18446744073709551615)
theorem bits_Mul64_ok (hx : U64 x) (hy : U64 y) : bits_Mul64.f x y = some (x * y / 18446744073709551616, x * y % 18446744073709551616) := by
  obtain ⟨⟨a1, a2⟩, ⟨b1, b2⟩, ⟨c1, c2⟩, ⟨d1, d2⟩⟩ := parts_bd hx hy
  have e := mul_parts x y
  obtain ⟨hx0, hx1⟩ := hx; obtain ⟨hy0, hy1⟩ := hy
  unfold bits_Mul64.f
  rw [and_mask hx0 hx1, and_mask hy0 hy1, wrap_u64 (x * y)]
  generalize x / 4294967296 * (y / 4294967296) = p11 at *
  generalize x / 4294967296 * (y % 4294967296) = p10 at *
  generalize x % 4294967296 * (y / 4294967296) = p01 at *
  generalize x % 4294967296 * (y % 4294967296) = p00 at *
  generalize x * y = n at *
  rw [wrap_id (x := p11) ⟨by omega, by omega⟩, wrap_id (x := p10) ⟨by omega, by omega⟩, wrap_id (x := p00) ⟨by omega, by omega⟩, wrap_id (x := p01) ⟨by omega, by omega⟩,
    wrap_id (x := p10 + p00 / 4294967296) ⟨by omega, by omega⟩, and_mask (by omega) (by omega), wrap_id (x := (p10 + p00 / 4294967296) % 4294967296 + p01) ⟨by omega, by omega⟩,
    wrap_id (x := p11 + (p10 + p00 / 4294967296) / 4294967296) ⟨by omega, by omega⟩, wrap_id ⟨by omega, by omega⟩]
  congr 2
  omega
theorem wide_Mul_ok (hx : U64 x) (hy : U64 y) : wide_Mul.f x y = some (x * y / 18446744073709551616, x * y % 18446744073709551616) := by
  unfold wide_Mul.f
  rw [bits_Mul64_ok hx hy]
  rfl
theorem ref_Mul_ok (hx : U64 x) (hy : U64 y) : spigotref01_Mul.f x y = some (x * y / 18446744073709551616, x * y % 18446744073709551616) := by
  obtain ⟨⟨a1, a2⟩, ⟨b1, b2⟩, ⟨c1, c2⟩, ⟨d1, d2⟩⟩ := parts_bd hx hy
  have e := mul_parts x y
  obtain ⟨hx0, hx1⟩ := hx; obtain ⟨hy0, hy1⟩ := hy
  unfold spigotref01_Mul.f
  rw [tdiv_nonneg_eq hx0, tdiv_nonneg_eq hy0, tmod_nonneg_eq hx0, tmod_nonneg_eq hy0, wrap_id (x := x / 4294967296) ⟨by omega, by omega⟩, wrap_id (x := y / 4294967296) ⟨by omega, by omega⟩]
  generalize x / 4294967296 * (y / 4294967296) = p11 at *
  generalize x / 4294967296 * (y % 4294967296) = p10 at *
  generalize x % 4294967296 * (y / 4294967296) = p01 at *
  generalize x % 4294967296 * (y % 4294967296) = p00 at *
  generalize x * y = n at *
  rw [wrap_id (x := p11) ⟨by omega, by omega⟩, wrap_id (x := p10) ⟨by omega, by omega⟩, wrap_id (x := p00) ⟨by omega, by omega⟩, wrap_id (x := p01) ⟨by omega, by omega⟩,
    tdiv_nonneg_eq b1, tdiv_nonneg_eq c1, tdiv_nonneg_eq d1, tmod_nonneg_eq b1, tmod_nonneg_eq c1, tmod_nonneg_eq d1,
    wrap_id (x := p10 / 4294967296) ⟨by omega, by omega⟩, wrap_id (x := p01 / 4294967296) ⟨by omega, by omega⟩, wrap_id (x := p00 / 4294967296) ⟨by omega, by omega⟩,
    wrap_id (x := p00 / 4294967296 + p10 % 4294967296) ⟨by omega, by omega⟩, wrap_id (x := p00 / 4294967296 + p10 % 4294967296 + p01 % 4294967296) ⟨by omega, by omega⟩,
    tdiv_nonneg_eq (by omega : 0 ≤ p00 / 4294967296 + p10 % 4294967296 + p01 % 4294967296), tmod_nonneg_eq (by omega : 0 ≤ p00 / 4294967296 + p10 % 4294967296 + p01 % 4294967296),
    wrap_id (x := (p00 / 4294967296 + p10 % 4294967296 + p01 % 4294967296) / 4294967296) ⟨by omega, by omega⟩, wrap_id (x := p11 + p10 / 4294967296) ⟨by omega, by omega⟩, wrap_id (x := p11 + p10 / 4294967296 + p01 / 4294967296) ⟨by omega, by omega⟩,
    wrap_id (x := p11 + p10 / 4294967296 + p01 / 4294967296 + _) ⟨by omega, by omega⟩, wrap_id (x := (p00 / 4294967296 + p10 % 4294967296 + p01 % 4294967296) % 4294967296 * 4294967296) ⟨by omega, by omega⟩, wrap_id ⟨by omega, by omega⟩]
  congr 2 <;> omega
end
section
variable {a0 a1 d : Int}
theorem wide_Div_ok (k : Nat) (hk : 20 ≤ k) (h0 : U64 a0) (h1 : U64 a1) (hd : 0 < d) (hd1 : d < 18446744073709551616) :
    wide_Div.f k a0 a1 d = some (wv a0 a1 / d / 18446744073709551616, wv a0 a1 / d % 18446744073709551616, wv a0 a1 % d, 0) := by
  obtain ⟨r1, r2, r3⟩ := div_rest (n := a0) hd
  have l0 := div_nonneg h0.1 hd
  have l1 := div_le h0.1 hd
  unfold wide_Div.f
  rw [if_neg (by omega), Div64_ok k hk 0 a0 d (by omega) h0 hd1 hd]
  simp only [Option.bind_some, Int.zero_mul, Int.zero_add]
  rw [Div64_ok k hk (a0 % d) a1 d r2 h1 hd1 r3]
  simp only [Option.bind_some]
  obtain ⟨g1, g2⟩ := h1
  obtain ⟨s1, s2, s3⟩ := div_rest (n := a0 % d * 18446744073709551616 + a1) hd
  have q0 := div_nonneg (n := a0 % d * 18446744073709551616 + a1) (by omega) hd
  have q1 : (a0 % d * 18446744073709551616 + a1) / d < 18446744073709551616 := div_lt hd (by omega)
  generalize (a0 % d * 18446744073709551616 + a1) / d = Q at *
  generalize (a0 % d * 18446744073709551616 + a1) % d = R at *
  generalize a0 / d = P at *
  have e : (P * 18446744073709551616 + Q) * d = P * d * 18446744073709551616 + Q * d := by
    rw [Int.add_mul, Int.mul_assoc, Int.mul_comm 18446744073709551616 d, ← Int.mul_assoc]
  obtain ⟨z1, z2⟩ := div_uniq (n := wv a0 a1) (y := d) (q := P * 18446744073709551616 + Q) (by unfold wv; omega) (by unfold wv; omega)
  rw [z1, z2, e]
  unfold wv
  congr 2
  · omega
  · congr 2
    · omega
    · congr 1
      omega
end
/-- A valid limit: Burst, Rate, Per. -/
def VL (b r p : Int) : Prop := 1 ≤ b ∧ b ≤ 1000000000 ∧ 0 ≤ r ∧ r ≤ 1000000000 ∧ 1 ≤ p ∧ p ≤ 1000000000
/-- A valid bucket: its limit, Level, Part, At. -/
def VB (b r p l q t : Int) : Prop := VL b r p ∧ 0 ≤ l ∧ l ≤ b ∧ 0 ≤ q ∧ q < p ∧ (l = b → q = 0) ∧ U64 t
section
variable {b r p l q t s : Int}
theorem CheckLimit_ok (h : VL b r p) : bucket_CheckLimit.f b r p = some 0 := by
  obtain ⟨_, _, _, _, _, _⟩ := h
  unfold bucket_CheckLimit.f
  rw [if_neg (by omega), if_neg (by omega), if_neg (by omega), if_neg (by omega), if_neg (by omega), if_neg (by omega)]
theorem CheckLimit_bad (h : ¬ VL b r p) : bucket_CheckLimit.f b r p = some 8 := by
  unfold bucket_CheckLimit.f
  unfold VL at h
  repeat' split
  all_goals first | rfl | (exfalso; omega)
theorem Check_ok (h : VB b r p l q t) : bucket_Check.f b r p l q t = some 0 := by
  obtain ⟨hl, h1, h2, h3, h4, h5, _⟩ := h
  have hb := hl.1
  have hb' := hl.2.1
  unfold bucket_Check.f
  rw [CheckLimit_ok hl]
  simp only [Option.bind_some, ↓reduceIte]
  rw [if_neg (by omega), wrap64_id (x := b - l) (by omega) (by omega), if_neg (by omega), if_neg (by omega), if_neg (by omega)]
  by_cases c : b - l = 0
  · rw [if_pos c, if_neg (by have := h5 (by omega); omega)]
  · rw [if_neg c]
theorem Check_bad (ht : U64 t) (hl : I64 l) (h : ¬ VB b r p l q t) : bucket_Check.f b r p l q t = some 8 := by
  obtain ⟨_, _⟩ := hl
  unfold bucket_Check.f
  by_cases hv : VL b r p
  · rw [CheckLimit_ok hv]
    simp only [Option.bind_some, ↓reduceIte]
    have h' : ¬ (0 ≤ l ∧ l ≤ b ∧ 0 ≤ q ∧ q < p ∧ (l = b → q = 0)) := fun g => h ⟨hv, g.1, g.2.1, g.2.2.1, g.2.2.2.1, g.2.2.2.2, ht⟩
    obtain ⟨_, _, _, _, _, _⟩ := hv
    by_cases c1 : l < 0
    · rw [if_pos c1]
    · rw [if_neg c1, wrap64_id (x := b - l) (by omega) (by omega)]
      repeat' split
      all_goals first | rfl | (exfalso; omega)
  · rw [CheckLimit_bad hv]
    simp
/-- Level, Part and At behind a refill at t. -/
def fN (r q s t : Int) : Int := (t - s) * r + q
def fL (b r p l q s t : Int) : Int := if t ≤ s then l else if fN r q s t / p ≥ b - l then b else l + fN r q s t / p
def fP (b r p l q s t : Int) : Int := if t ≤ s then q else if fN r q s t / p ≥ b - l then 0 else fN r q s t % p
def fT (s t : Int) : Int := if t ≤ s then s else t
theorem fN_bd (hv : VB b r p l q s) (ht : U64 t) (h : s ≤ t) : 0 ≤ fN r q s t ∧ fN r q s t ≤ 18446744073709551615000000000 + 1000000000 ∧ 0 ≤ (t - s) * r ∧ (t - s) * r ≤ 18446744073709551615000000000 := by
  obtain ⟨⟨_, _, _, _, _, _⟩, _, _, _, _, _, ⟨_, _⟩⟩ := hv
  obtain ⟨_, _⟩ := ht
  have := mul_bd (by omega : 0 ≤ t - s) (by omega : t - s ≤ 18446744073709551615) (by assumption : 0 ≤ r) (by assumption : r ≤ 1000000000)
  unfold fN
  omega
theorem fill_ok (k : Nat) (hk : 20 ≤ k) (hv : VB b r p l q s) (ht : U64 t) : bucket_fill.f k b r p l q s t = some (b, r, p, fL b r p l q s t, fP b r p l q s t, fT s t) := by
  unfold bucket_fill.f fL fP fT
  by_cases c : t ≤ s
  · rw [if_pos c, if_pos c, if_pos c, if_pos c]
  · rw [if_neg c, if_neg c, if_neg c, if_neg c]
    obtain ⟨n0, n1, m0, m1⟩ := fN_bd hv ht (by omega : s ≤ t)
    obtain ⟨⟨b0, b1, r0, r1, p0, p1⟩, l0, l1, q0, q1, _, ⟨s0, s1⟩⟩ := hv
    obtain ⟨t0, t1⟩ := ht
    have ur : U64 r := ⟨by omega, by omega⟩
    have uq : U64 q := ⟨by omega, by omega⟩
    have up : U64 p := ⟨by omega, by omega⟩
    have ud : U64 (t - s) := ⟨by omega, by omega⟩
    have ub : U64 (b - l) := ⟨by omega, by omega⟩
    rw [wrap_id ud, wrap_id ur, wrap_id uq, wrap_id up, wide_Mul_ok ud ur, wide_Of_ok]
    simp only [Option.bind_some]
    rw [wide_Add_ok (U64_hi m0 (by omega)) U64_lo U64_zero uq (by rw [wv_of, wv_zero]; omega), wv_of, wv_zero]
    simp only [Option.bind_some]
    have e : (t - s) * r + q = fN r q s t := rfl
    rw [e, wide_Div_ok k hk (U64_hi n0 (by omega)) U64_lo (by omega) up.2, wv_of]
    simp only [Option.bind_some]
    have d0 := div_nonneg n0 (by omega : 0 < p)
    obtain ⟨e1, e2, e3⟩ := div_rest (n := fN r q s t) (by omega : 0 < p)
    by_cases c2 : fN r q s t / p < 18446744073709551616
    · rw [wide_Small_ok (by omega)]
      simp only [Option.bind_some, ↓reduceIte]
      rw [wrap64_id (x := b - l) (by omega) (by omega), wrap_id ub, show fN r q s t / p % 18446744073709551616 = fN r q s t / p by omega]
      by_cases c3 : fN r q s t / p ≥ b - l
      · rw [if_pos c3, if_pos c3, if_pos c3]
      · rw [if_neg c3, if_neg c3, if_neg c3, wrap64_id (x := fN r q s t / p) (by omega) (by omega), wrap64_id (by omega) (by omega), wrap64_id (by omega) (by omega)]
    · rw [wide_Small_err (by omega)]
      simp only [Option.bind_some]
      rw [if_neg (by decide), if_pos (by omega), if_pos (by omega)]
/-- What a bucket holds behind a refill, in parts. -/
theorem fill_amt (hv : VB b r p l q s) (h : s ≤ t) :
    (l * p + q + (t - s) * r < b * p → fL b r p l q s t * p + fP b r p l q s t = l * p + q + (t - s) * r) ∧ (b * p ≤ l * p + q + (t - s) * r → fL b r p l q s t = b ∧ fP b r p l q s t = 0) := by
  obtain ⟨⟨b0, b1, r0, r1, p0, p1⟩, l0, l1, q0, q1, hf, _⟩ := hv
  unfold fL fP
  by_cases c : t ≤ s
  · rw [if_pos c, if_pos c]
    have : t = s := by omega
    subst this
    rw [Int.sub_self, Int.zero_mul, Int.add_zero]
    refine ⟨fun _ => rfl, fun h => ?_⟩
    rcases Int.lt_or_le l b with g | g
    · have := Int.mul_le_mul_of_nonneg_right (by omega : l + 1 ≤ b) (by omega : 0 ≤ p)
      rw [Int.add_mul, Int.one_mul] at this
      omega
    · exact ⟨by omega, hf (by omega)⟩
  · rw [if_neg c, if_neg c]
    obtain ⟨e1, e2, e3⟩ := div_rest (n := fN r q s t) (by omega : 0 < p)
    have ef : fN r q s t = (t - s) * r + q := rfl
    by_cases c3 : fN r q s t / p ≥ b - l
    · rw [if_pos c3, if_pos c3]
      have h1 := Int.mul_le_mul_of_nonneg_right c3 (by omega : 0 ≤ p)
      rw [Int.sub_mul] at h1
      exact ⟨fun h => by omega, fun _ => ⟨rfl, rfl⟩⟩
    · rw [if_neg c3, if_neg c3]
      have h1 := Int.mul_le_mul_of_nonneg_right (by omega : fN r q s t / p + 1 ≤ b - l) (by omega : 0 ≤ p)
      rw [Int.sub_mul, Int.add_mul, Int.one_mul] at h1
      rw [Int.add_mul]
      exact ⟨fun _ => by omega, fun h => by omega⟩
theorem fT_U64 (hs : U64 s) (ht : U64 t) : U64 (fT s t) := by unfold fT; split <;> assumption
theorem fill_valid (hv : VB b r p l q s) (ht : U64 t) : VB b r p (fL b r p l q s t) (fP b r p l q s t) (fT s t) := by
  have hv0 := hv
  obtain ⟨hl, l0, l1, q0, q1, hf, hs⟩ := hv
  refine ⟨hl, ?_⟩
  have hT := fT_U64 hs ht
  obtain ⟨b0, b1, r0, r1, p0, p1⟩ := hl
  by_cases c : t ≤ s
  · unfold fL fP
    rw [if_pos c, if_pos c]
    exact ⟨l0, l1, q0, q1, hf, hT⟩
  · obtain ⟨n0, n1, m0, m1⟩ := fN_bd hv0 ht (by omega : s ≤ t)
    unfold fL fP
    rw [if_neg c, if_neg c]
    obtain ⟨e1, e2, e3⟩ := div_rest (n := fN r q s t) (by omega : 0 < p)
    have d0 := div_nonneg n0 (by omega : 0 < p)
    by_cases c3 : fN r q s t / p ≥ b - l
    · rw [if_pos c3, if_pos c3]
      exact ⟨by omega, by omega, by omega, by omega, fun _ => rfl, hT⟩
    · rw [if_neg c3, if_neg c3]
      exact ⟨by omega, by omega, e2, e3, fun h => by omega, hT⟩
/-- Amounts tell Level and Part. -/
theorem amt_inj {l q l' q' p : Int} (q0 : 0 ≤ q) (q1 : q < p) (q0' : 0 ≤ q') (q1' : q' < p) (h : l * p + q = l' * p + q') : l = l' ∧ q = q' := by
  obtain ⟨a, b⟩ := div_uniq (n := l * p + q) (y := p) (q := l) (by omega) (by omega)
  obtain ⟨a', b'⟩ := div_uniq (n := l' * p + q') (y := p) (q := l') (by omega) (by omega)
  rw [h] at a b
  exact ⟨by omega, by omega⟩
theorem Refill_ok (k : Nat) (hk : 20 ≤ k) (hv : VB b r p l q s) (ht : U64 t) : bucket_Refill.f k b r p l q s t = some (b, r, p, fL b r p l q s t, fP b r p l q s t, fT s t, 0) := by
  unfold bucket_Refill.f
  rw [Check_ok hv]
  simp only [Option.bind_some, ↓reduceIte]
  rw [fill_ok k hk hv ht]
  rfl
theorem charge_valid (hv : VB b r p l q s) {c : Int} (hc : 0 ≤ c) (h : c ≤ l) : VB b r p (l - c) q s := by
  obtain ⟨hl, l0, l1, q0, q1, hf, hs⟩ := hv
  exact ⟨hl, by omega, by omega, q0, q1, fun e => hf (by omega), hs⟩
theorem Full_ok (h : VL b r p) : bucket_Full.f b r p t = some (b, r, p, b, 0, t, 0) := by unfold bucket_Full.f; rw [CheckLimit_ok h]; rfl
theorem full_valid (h : VL b r p) (ht : U64 t) : VB b r p b 0 t := ⟨h, by have := h.1; omega, by omega, by omega, by have := h.2.2.2.2.1; omega, fun _ => rfl, ht⟩
end
theorem half (P : Int) (i : Nat) : P / 2 ^ i = 2 * (P / 2 ^ (i + 1)) + P / 2 ^ i % 2 := by
  have : P / 2 ^ (i + 1) = P / 2 ^ i / 2 := by rw [Int.pow_succ, Int.ediv_ediv_of_nonneg (Int.le_of_lt (two_pow_pos i))]
  rw [this]
  omega
theorem bit_hi (h l : Int) (i : Nat) (h0 : 0 ≤ l) (h1 : l < 18446744073709551616) : (h * 18446744073709551616 + l) / 2 ^ (64 + i) = h / 2 ^ i := by
  rw [Int.pow_add, ← Int.ediv_ediv_of_nonneg (Int.le_of_lt (two_pow_pos 64))]
  congr 1
  rw [show ((2 : Int) ^ 64) = 18446744073709551616 from rfl]
  omega
theorem bit_lo (h l : Int) (i : Nat) (hi : i < 64) : (h * 18446744073709551616 + l) / 2 ^ i % 2 = l / 2 ^ i % 2 := by
  have e : h * 18446744073709551616 = h * 2 ^ (63 - i) * 2 * 2 ^ i := by
    rw [Int.mul_assoc, Int.mul_assoc, show ((2 : Int) * 2 ^ i) = 2 ^ (i + 1) from by rw [Int.pow_succ, Int.mul_comm], two_pow_split (63 - i) (i + 1) 64 (by omega)]
    rfl
  rw [e, Int.add_comm, Int.add_mul_ediv_right _ _ (by have := two_pow_pos i; omega)]
  omega
theorem shr_ok (x : Int) (i : Int) (h0 : 0 ≤ i) (h1 : i ≤ 63) : shr .u64 x i = x / 2 ^ i.toNat := by
  unfold shr
  rw [show (min i.toNat IntKind.u64.bits) = i.toNat by simp [IntKind.bits] <;> omega]
/-- One digit of a quotient to the base 2. -/
theorem digit_step {n n' D b : Int} (hD : 0 < D) (hn : n' = 2 * n + b) (b0 : 0 ≤ b) (b1 : b ≤ 1) :
    (2 * (n % D) + b ≥ D → n' / D = 2 * (n / D) + 1 ∧ n' % D = 2 * (n % D) + b - D) ∧ (2 * (n % D) + b < D → n' / D = 2 * (n / D) ∧ n' % D = 2 * (n % D) + b) := by
  obtain ⟨r1, r2, r3⟩ := div_rest (n := n) hD
  refine ⟨fun h => ?_, fun h => ?_⟩
  · have e : (2 * (n / D) + 1) * D = 2 * (n / D * D) + D := by rw [Int.add_mul, Int.one_mul, Int.mul_assoc]
    obtain ⟨z1, z2⟩ := div_uniq (n := n') (y := D) (q := 2 * (n / D) + 1) (by omega) (by omega)
    exact ⟨z1, by omega⟩
  · have e : (2 * (n / D)) * D = 2 * (n / D * D) := by rw [Int.mul_assoc]
    obtain ⟨z1, z2⟩ := div_uniq (n := n') (y := D) (q := 2 * (n / D)) (by omega) (by omega)
    exact ⟨z1, by omega⟩
theorem ref_Div_loop (h l d : Int) (h0 : U64 h) (h1 : U64 l) (hd : 0 < d) (hd1 : d < 18446744073709551616) :
    ∀ (i k : Nat), i ≤ 128 → 2 * i + 5 ≤ k →
      spigotref01_Div.l0 k d ((i : Int) - 1) h l (wv h l / 2 ^ i / d / 18446744073709551616) (wv h l / 2 ^ i / d % 18446744073709551616) 0 (wv h l / 2 ^ i % d) = some (wv h l / d / 18446744073709551616, wv h l / d % 18446744073709551616, wv h l % d, 0) := by
  obtain ⟨w0, w1⟩ := wv_bd h0 h1
  have hn : ∀ i : Nat, 0 ≤ wv h l / 2 ^ i ∧ wv h l / 2 ^ i < 340282366920938463463374607431768211456 := by
    intro i
    have := div_le w0 (two_pow_pos i)
    exact ⟨div_nonneg w0 (two_pow_pos i), by omega⟩
  intro i
  induction i with
  | zero =>
    intro k _ hk
    obtain ⟨k, rfl⟩ : ∃ m, k = m + 1 := ⟨k - 1, by omega⟩
    simp only [spigotref01_Div.l0]
    rw [if_neg (by omega)]
    simp
  | succ i ih =>
    intro k hi hk
    obtain ⟨k, rfl⟩ : ∃ m, k = m + 2 := ⟨k - 2, by omega⟩
    have ex : (((i + 1 : Nat) : Int) - 1) = (i : Int) := by omega
    rw [ex]
    obtain ⟨n0, n1⟩ := hn i
    obtain ⟨m0, m1⟩ := hn (i + 1)
    have hhalf := half (wv h l) i
    obtain ⟨r1, r2, r3⟩ := div_rest (n := wv h l / 2 ^ (i + 1)) hd
    have q0 := div_nonneg m0 hd
    have q1 := div_le m0 hd
    have st := digit_step (n := wv h l / 2 ^ (i + 1)) (n' := wv h l / 2 ^ i) (b := wv h l / 2 ^ i % 2) hd hhalf (by omega) (by omega)
    have key : ∀ b : Int, b = wv h l / 2 ^ i % 2 → spigotref01_Div.j1 (k + 1) d (i : Int) b h l (wv h l / 2 ^ (i + 1) / d / 18446744073709551616) (wv h l / 2 ^ (i + 1) / d % 18446744073709551616) 0 (wv h l / 2 ^ (i + 1) % d) = some (wv h l / d / 18446744073709551616, wv h l / d % 18446744073709551616, wv h l % d, 0) := by
      intro b hb
      rw [← hb] at hhalf st
      have b0 : 0 ≤ b := by omega
      have b1 : b ≤ 1 := by omega
      have ih' := ih k (by omega) (by omega)
      simp only [spigotref01_Div.j1]
      generalize wv h l / 2 ^ i = n' at *
      generalize wv h l / 2 ^ (i + 1) = n at *
      generalize hR : n % d = R at *
      generalize hQ : n / d = Q at *
      have eh : IntKind.u64.wrap (IntKind.u64.wrap (0 * 2) + R / 9223372036854775808) = (2 * R + b) / 18446744073709551616 := by simp only [wrap_u64]; omega
      have el : IntKind.u64.wrap (IntKind.u64.wrap (R * 2) + b) = (2 * R + b) % 18446744073709551616 := by simp only [wrap_u64]; omega
      rw [eh, el]
      obtain ⟨k, rfl⟩ : ∃ m, k = m + 1 := ⟨k - 1, by omega⟩
      rw [ref_Cmp_ok k U64_lo ⟨by omega, hd1⟩, wv_of, wv_zero]
      simp only [Option.bind_some]
      rw [wrap64_id (x := (i : Int) - 1) (by omega) (by omega)]
      by_cases c : 2 * R + b ≥ d
      · obtain ⟨s1, s2⟩ := st.1 c
        rw [if_pos (wcmp_nonneg.2 c), ref_Less_ok (U64_hi (by omega) (by omega)) U64_lo U64_zero ⟨by omega, hd1⟩ (by rw [wv_of, wv_zero]; exact c), wv_of, wv_zero]
        simp only [Option.bind_some]
        rw [← ih', s1, s2]
        congr 1 <;> (try simp only [wrap_u64]) <;> omega
      · obtain ⟨s1, s2⟩ := st.2 (by omega)
        rw [if_neg (fun h => c (wcmp_nonneg.1 h)), ← ih', s1, s2]
        congr 1 <;> (try simp only [wrap_u64]) <;> omega
    simp only [spigotref01_Div.l0]
    rw [if_pos (by omega), if_pos (by omega)]
    by_cases c : (i : Int) > 63
    · rw [if_pos c, wrap64_id (x := (i : Int) - 64) (by omega) (by omega), if_pos (by omega), shr_ok _ _ (by omega) (by omega)]
      have hh := div_nonneg h0.1 (two_pow_pos ((i : Int) - 64).toNat)
      have hh1 := div_le h0.1 (two_pow_pos ((i : Int) - 64).toNat)
      have := h0.2
      rw [and_one hh (by omega)]
      refine key _ ?_
      have e := bit_hi h l ((i : Int) - 64).toNat h1.1 h1.2
      rw [show 64 + ((i : Int) - 64).toNat = i by omega] at e
      unfold wv
      rw [e]
    · rw [if_neg c, shr_ok _ _ (by omega) (by omega)]
      have hh := div_nonneg h1.1 (two_pow_pos (i : Int).toNat)
      have hh1 := div_le h1.1 (two_pow_pos (i : Int).toNat)
      have := h1.2
      rw [and_one hh (by omega)]
      refine key _ ?_
      have e := bit_lo h l i (by omega)
      unfold wv
      rw [e]
      rfl
section
variable {a0 a1 d : Int}
theorem ref_Div_ok (k : Nat) (hk : 300 ≤ k) (h0 : U64 a0) (h1 : U64 a1) (hd : 0 < d) (hd1 : d < 18446744073709551616) :
    spigotref01_Div.f k a0 a1 d = some (wv a0 a1 / d / 18446744073709551616, wv a0 a1 / d % 18446744073709551616, wv a0 a1 % d, 0) := by
  have e := ref_Div_loop a0 a1 d h0 h1 hd hd1 128 k (by omega) (by omega)
  obtain ⟨w0, w1⟩ := wv_bd h0 h1
  have z : wv a0 a1 / 2 ^ 128 = 0 := Int.ediv_eq_zero_of_lt w0 w1
  rw [z, Int.zero_ediv, Int.zero_emod] at e
  unfold spigotref01_Div.f
  rw [if_neg (by omega)]
  exact e
end
section
variable {b r p l q t s c : Int}
theorem ref_CheckLimit_ok (h : VL b r p) : spigotref03_CheckLimit.f b r p = some 0 := CheckLimit_ok h
theorem ref_CheckLimit_bad (h : ¬ VL b r p) : spigotref03_CheckLimit.f b r p = some 8 := CheckLimit_bad h
end
theorem cdrop {α : Type} {l : List α} {j : Nat} (h : j < l.length) : l.drop j = l[j] :: l.drop (j + 1) := List.drop_eq_getElem_cons h
theorem rdL_at {l : List S49} {j : Nat} (h : j < l.length) : rd_T49 l (j : Int) = l[j] := by
  unfold rd_T49
  rw [List.getD_eq_getElem?_getD, Int.toNat_natCast, List.getElem?_eq_getElem h]
  rfl
theorem rdC_at {l : List S62} {j : Nat} (h : j < l.length) : rd_T62 l (j : Int) = l[j] := by
  unfold rd_T62
  rw [List.getD_eq_getElem?_getD, Int.toNat_natCast, List.getElem?_eq_getElem h]
  rfl
/-- A valid limit; a valid row of limits. -/
def lO (x : S49) : Prop := VL x.f0 x.f1 x.f2
def cC (l : List S49) : Prop := l.length ≤ 6 ∧ 0 < l.length ∧ ∀ x ∈ l, lO x
theorem cchk_loop (l : List S49) (hl : l.length ≤ 6) : ∀ (d j k : Nat), j + d = l.length → d + 1 ≤ k →
    ((∀ x ∈ l.drop j, lO x) → curve_Check.l0 k l (l.length : Int) (j : Int) = some 0 ∧ spigotref40_Check.l0 k l (j : Int) = some 0) ∧
    (¬ (∀ x ∈ l.drop j, lO x) → curve_Check.l0 k l (l.length : Int) (j : Int) = some 8 ∧ spigotref40_Check.l0 k l (j : Int) = some 8) := by
  intro d
  induction d with
  | zero =>
    intro j k hj hk
    obtain ⟨k, rfl⟩ : ∃ m, k = m + 1 := ⟨k - 1, by omega⟩
    simp only [curve_Check.l0, spigotref40_Check.l0]
    rw [if_neg (by omega), if_neg (by omega), List.drop_eq_nil_of_le (by omega)]
    exact ⟨fun _ => ⟨rfl, rfl⟩, fun h => absurd (fun x hx => by cases hx) h⟩
  | succ d ih =>
    intro j k hj hk
    obtain ⟨k, rfl⟩ : ∃ m, k = m + 1 := ⟨k - 1, by omega⟩
    have hjl : j < l.length := by omega
    obtain ⟨i1, i2⟩ := ih (j + 1) k (by omega) (by omega)
    simp only [curve_Check.l0, spigotref40_Check.l0]
    rw [if_pos (by omega), if_pos (by omega), if_pos (by omega), if_pos (by omega), if_pos (by omega), rdL_at hjl, cdrop hjl, wj (by omega)]
    by_cases c : lO l[j]
    · rw [CheckLimit_ok c, ref_CheckLimit_ok c]
      simp only [Option.bind_some, ↓reduceIte]
      constructor
      · intro h
        exact i1 fun x hx => h x (List.mem_cons_of_mem _ hx)
      · intro h
        refine i2 fun g => h fun x hx => ?_
        rcases List.mem_cons.1 hx with e | e
        · rw [e]
          exact c
        · exact g x e
    · rw [CheckLimit_bad c, ref_CheckLimit_bad c]
      exact ⟨fun h => absurd (h _ List.mem_cons_self) c, fun _ => ⟨rfl, rfl⟩⟩
theorem cCheck_ok {l : List S49} (h : cC l) (k : Nat) (hk : 10 ≤ k) : curve_Check.f k l = some 0 ∧ spigotref40_Check.f k l = some 0 := by
  obtain ⟨h1, h2, h3⟩ := h
  unfold curve_Check.f spigotref40_Check.f
  rw [if_neg (by omega), if_neg (by omega), if_neg (by omega), if_neg (by omega)]
  exact (cchk_loop l h1 l.length 0 k (by omega) (by omega)).1 (by rw [List.drop_zero]; exact h3)
theorem cCheck_bad {l : List S49} (h : ¬ cC l) : ∃ x : Int, x ≠ 0 ∧ x ≠ 6 ∧ ∀ k, 10 ≤ k → curve_Check.f k l = some x ∧ spigotref40_Check.f k l = some x := by
  by_cases h1 : 6 < l.length
  · refine ⟨4, by decide, by decide, fun k _ => ?_⟩
    unfold curve_Check.f spigotref40_Check.f
    rw [if_pos (by omega), if_pos (by omega)]
    exact ⟨rfl, rfl⟩
  · by_cases h2 : l.length = 0
    · refine ⟨2, by decide, by decide, fun k _ => ?_⟩
      unfold curve_Check.f spigotref40_Check.f
      exact ⟨by rw [if_neg (by omega), if_pos (by omega)], by rw [if_neg (by omega), if_pos (by omega)]⟩
    · refine ⟨8, by decide, by decide, fun k _ => ?_⟩
      unfold curve_Check.f spigotref40_Check.f
      rw [if_neg (by omega), if_neg (by omega), if_neg (by omega), if_neg (by omega)]
      exact (cchk_loop l (by omega) l.length 0 k (by omega) (by omega)).2 (by rw [List.drop_zero]; exact fun g => h ⟨by omega, by omega, g⟩)
/-! #### values -/
def vStep (n m : Int) (x : S49) : Int := if n * x.f1 / x.f2 < 1000000000000 then mn m (x.f0 + n * x.f1 / x.f2) else m
/-- What the row allows in n ticks. -/
def cVal (l : List S49) (n : Int) : Int := l.foldl (vStep n) 1000000000000
theorem val_loop (l : List S49) (hl : ∀ x ∈ l, lO x) (hn : l.length ≤ 1000000) (n : Int) (un : U64 n) : ∀ (d j k : Nat) (m : Int), j + d = l.length → d + 301 ≤ k →
    curve_value.l0 k n m l (l.length : Int) (j : Int) = some ((l.drop j).foldl (vStep n) m) ∧ spigotref40_value.l0 k l n m (j : Int) = some ((l.drop j).foldl (vStep n) m) := by
  intro d
  induction d with
  | zero =>
    intro j k m hj hk
    obtain ⟨k, rfl⟩ : ∃ m, k = m + 1 := ⟨k - 1, by omega⟩
    simp only [curve_value.l0, spigotref40_value.l0]
    rw [if_neg (by omega), if_neg (by omega), List.drop_eq_nil_of_le (by omega)]
    exact ⟨rfl, rfl⟩
  | succ d ih =>
    intro j k m hj hk
    obtain ⟨k, rfl⟩ : ∃ m, k = m + 1 := ⟨k - 1, by omega⟩
    have hjl : j < l.length := by omega
    obtain ⟨b0, b1, r0, r1, p0, p1⟩ := hl _ (List.getElem_mem hjl)
    have ur : U64 l[j].f1 := ⟨by omega, by omega⟩
    have up : U64 l[j].f2 := ⟨by omega, by omega⟩
    obtain ⟨m0, m1⟩ := mul_U64_bd un ur
    have hh : U64 (n * l[j].f1 / 18446744073709551616) := U64_hi m0 (by omega)
    have d0 := div_nonneg m0 (by omega : 0 < l[j].f2)
    simp only [curve_value.l0, spigotref40_value.l0]
    rw [if_pos (by omega), if_pos (by omega), if_pos (by omega), if_pos (by omega), if_pos (by omega), rdL_at hjl, cdrop hjl, wj (by omega), wrap_id ur, wrap_id up, wide_Mul_ok un ur, ref_Mul_ok un ur]
    simp only [Option.bind_some]
    rw [wide_Div_ok k (by omega) hh U64_lo (by omega) up.2, ref_Div_ok k (by omega) hh U64_lo (by omega) up.2, wv_of]
    simp only [Option.bind_some, ↓reduceIte]
    rw [wide_Of_ok]
    simp only [Option.bind_some]
    have e := wide_Cmp_ok (a0 := n * l[j].f1 / l[j].f2 / 18446744073709551616) (a1 := n * l[j].f1 / l[j].f2 % 18446744073709551616) (b0 := 0) (b1 := 1000000000000) (k - 3) U64_lo ⟨by decide, by decide⟩
    rw [show k - 3 + 3 = k by omega, wv_of, wv_zero] at e
    rw [e]
    simp only [Option.bind_some]
    rw [List.foldl_cons]
    by_cases c : n * l[j].f1 / l[j].f2 < 1000000000000
    · have v : vStep n m l[j] = mn m (l[j].f0 + n * l[j].f1 / l[j].f2) := by unfold vStep; rw [if_pos c]
      rw [if_pos (wcmp_neg.2 c), v, show n * l[j].f1 / l[j].f2 % 18446744073709551616 = n * l[j].f1 / l[j].f2 by omega, wrap64_id (x := n * l[j].f1 / l[j].f2) (by omega) (by omega), wrap64_id (x := l[j].f0 + n * l[j].f1 / l[j].f2) (by omega) (by omega), if_pos (by omega), if_pos c]
      exact ih (j + 1) k _ (by omega) (by omega)
    · have v : vStep n m l[j] = m := by unfold vStep; rw [if_neg c]
      rw [if_neg (fun h => c (wcmp_neg.1 h)), v]
      obtain ⟨i1, i2⟩ := ih (j + 1) k m (by omega) (by omega)
      refine ⟨i1, ?_⟩
      by_cases c2 : n * l[j].f1 / l[j].f2 / 18446744073709551616 = 0
      · rw [if_pos c2, if_neg (by omega)]
        exact i2
      · rw [if_neg c2]
        exact i2
theorem value_ok {l : List S49} (h : cC l) {n : Int} (un : U64 n) (k : Nat) (hk : 310 ≤ k) : curve_value.f k l n = some (cVal l n) ∧ spigotref40_value.f k l n = some (cVal l n) := by
  obtain ⟨h1, h2, h3⟩ := h
  have e := val_loop l h3 (by omega) n un l.length 0 k 1000000000000 (by omega) (by omega)
  rw [List.drop_zero] at e
  exact e
def cbad (x : S62) : Prop := x.f1 < 0 ∨ x.f1 > 1000000000
theorem cbad_f (x : S62) : ∃ b, curve_Charges_1.f x.f0 x.f1 = some b ∧ (b = true ↔ cbad x) := by
  unfold curve_Charges_1.f cbad
  by_cases c : x.f1 < 0
  · rw [if_pos c]
    exact ⟨true, rfl, fun _ => .inl c, fun _ => rfl⟩
  · rw [if_neg c]
    refine ⟨_, rfl, ?_⟩
    rw [decide_eq_true_iff]
    omega
theorem bad_idx (cs : List S62) (hn : cs.length ≤ 1000000) : ∀ (d j k : Nat), j + d = cs.length → d + 2 ≤ k → ∃ i : Int, slices_IndexFunc_api_Charge_c36.l0 k cs (cs.length : Int) (j : Int) = some i ∧ (0 ≤ i ↔ ∃ c ∈ cs.drop j, cbad c) := by
  intro d
  induction d with
  | zero =>
    intro j k hj hk
    obtain ⟨k, rfl⟩ : ∃ m, k = m + 1 := ⟨k - 1, by omega⟩
    simp only [slices_IndexFunc_api_Charge_c36.l0]
    rw [if_neg (by omega), List.drop_eq_nil_of_le (by omega)]
    exact ⟨-1, rfl, fun h => absurd h (by decide), fun ⟨_, h, _⟩ => by cases h⟩
  | succ d ih =>
    intro j k hj hk
    obtain ⟨k, rfl⟩ : ∃ m, k = m + 1 := ⟨k - 1, by omega⟩
    have hjl : j < cs.length := by omega
    simp only [slices_IndexFunc_api_Charge_c36.l0]
    rw [if_pos (by omega), if_pos (by omega), if_pos (by omega), rdC_at hjl, cdrop hjl]
    obtain ⟨b, eb, hb⟩ := cbad_f cs[j]
    rw [eb]
    simp only [Option.bind_some]
    by_cases c : b = true
    · rw [if_pos c]
      exact ⟨j, rfl, fun _ => ⟨_, List.mem_cons_self, hb.1 c⟩, fun _ => by omega⟩
    · rw [if_neg c, wj (by omega)]
      obtain ⟨i, e, h⟩ := ih (j + 1) k (by omega) (by omega)
      refine ⟨i, e, h.trans ⟨fun ⟨x, hx, h0⟩ => ⟨x, List.mem_cons_of_mem _ hx, h0⟩, fun ⟨x, hx, h0⟩ => ?_⟩⟩
      rcases List.mem_cons.1 hx with g | g
      · rw [g] at h0
        exact absurd (hb.2 h0) c
      · exact ⟨x, g, h0⟩
theorem bad_any (cs : List S62) (hn : cs.length ≤ 1000000) (k : Nat) (hk : cs.length + 2 ≤ k) (z : Int) : ∃ b, slices_ContainsFunc_api_Charge_c36.f k cs z = some b ∧ (b = true ↔ ∃ c ∈ cs, cbad c) := by
  obtain ⟨i, e, h⟩ := bad_idx cs hn cs.length 0 k (by omega) (by omega)
  unfold slices_ContainsFunc_api_Charge_c36.f slices_IndexFunc_api_Charge_c36.f
  rw [show (0 : Int) = ((0 : Nat) : Int) from rfl, e]
  rw [List.drop_zero] at h
  exact ⟨_, rfl, by rw [decide_eq_true_iff]; exact h⟩
/-- The error of the order from place j on. -/
def oW (c : List S62) : Nat → Nat → Int
  | 0, _ => 0
  | d + 1, j => if (rd_T62 c (j : Int)).f0 < (rd_T62 c ((j - 1 : Nat) : Int)).f0 then 32 else oW c d (j + 1)
theorem ord_loop (c : List S62) (hn : c.length ≤ 1000000) : ∀ (d j k : Nat), 0 < j → j + d = c.length → d + 1 ≤ k → curve_Charges.l0 k c (c.length : Int) (j : Int) = some (oW c d j) ∧ spigotref40_Charges.l1 k c (j : Int) = some (oW c d j) := by
  intro d
  induction d with
  | zero =>
    intro j k h0 hj hk
    obtain ⟨k, rfl⟩ : ∃ m, k = m + 1 := ⟨k - 1, by omega⟩
    simp only [curve_Charges.l0, spigotref40_Charges.l1]
    rw [if_neg (by omega), if_neg (by omega)]
    exact ⟨rfl, rfl⟩
  | succ d ih =>
    intro j k h0 hj hk
    obtain ⟨k, rfl⟩ : ∃ m, k = m + 1 := ⟨k - 1, by omega⟩
    have e1 : wrap64 ((j : Int) - 1) = ((j - 1 : Nat) : Int) := by unfold wrap64; omega
    obtain ⟨i1, i2⟩ := ih (j + 1) k (by omega) (by omega) (by omega)
    simp only [curve_Charges.l0, spigotref40_Charges.l1]
    rw [e1, wj (by omega)]
    have p1 : (j : Int) < (c.length : Int) := by omega
    have p2 : (j : Int) > 0 := by omega
    have p3 : (0 : Int) ≤ (j : Int) := by omega
    have p4 : (0 : Int) ≤ ((j - 1 : Nat) : Int) := by omega
    have p5 : ((j - 1 : Nat) : Int) < (c.length : Int) := by omega
    rw [if_pos p1, if_pos p2, if_pos p3, if_pos p1, if_pos p4, if_pos p5]
    unfold oW
    by_cases g : (rd_T62 c (j : Int)).f0 < (rd_T62 c ((j - 1 : Nat) : Int)).f0
    · simp only [if_pos g, if_pos p1, if_pos p3, if_pos p4, if_pos p5]
      exact ⟨trivial, trivial⟩
    · simp only [if_neg g, if_pos p1, if_pos p3, if_pos p4, if_pos p5]
      exact ⟨i1, i2⟩
theorem oW_zero (c : List S62) : ∀ (d j : Nat), 0 < j → (oW c d j = 0 ↔ ∀ a : Nat, j ≤ a + 1 → a + 1 < j + d → (rd_T62 c (a : Int)).f0 ≤ (rd_T62 c ((a + 1 : Nat) : Int)).f0) := by
  intro d
  induction d with
  | zero => intro j _; exact ⟨fun _ a h1 h2 => by omega, fun _ => rfl⟩
  | succ d ih =>
    intro j h0
    unfold oW
    by_cases g : (rd_T62 c (j : Int)).f0 < (rd_T62 c ((j - 1 : Nat) : Int)).f0
    · rw [if_pos g]
      refine ⟨fun h => absurd h (by decide), fun h => ?_⟩
      have := h (j - 1) (by omega) (by omega)
      rw [show j - 1 + 1 = j by omega] at this
      omega
    · rw [if_neg g, ih (j + 1) (by omega)]
      constructor
      · intro h a h1 h2
        by_cases e : a + 1 = j
        · have ea : a = j - 1 := by omega
          subst ea
          rw [show j - 1 + 1 = j by omega]
          omega
        · exact h a (by omega) (by omega)
      · intro h a h1 h2
        exact h a (by omega) (by omega)
theorem oW_six (c : List S62) : ∀ (d j : Nat), oW c d j ≠ 6 := by
  intro d
  induction d with
  | zero => intro j; unfold oW; decide
  | succ d ih =>
    intro j
    unfold oW
    split
    · decide
    · exact ih _
/-- Charges that are allowed. -/
def cO (c : List S62) : Prop := c.length ≤ 60 ∧ (∀ x ∈ c, 0 ≤ x.f1 ∧ x.f1 ≤ 1000000000) ∧ ∀ a b : Nat, a ≤ b → b < c.length → (rd_T62 c (a : Int)).f0 ≤ (rd_T62 c (b : Int)).f0
theorem rcost_loop (c : List S62) (hn : c.length ≤ 1000000) : ∀ (d j k : Nat), j + d = c.length → d + 1 ≤ k →
    ((¬ ∃ x ∈ c.drop j, cbad x) → spigotref40_Charges.l0 k c (j : Int) = spigotref40_Charges.l1 (k - d - 1) c 1) ∧ ((∃ x ∈ c.drop j, cbad x) → spigotref40_Charges.l0 k c (j : Int) = some 8) := by
  intro d
  induction d with
  | zero =>
    intro j k hj hk
    obtain ⟨k, rfl⟩ : ∃ m, k = m + 1 := ⟨k - 1, by omega⟩
    simp only [spigotref40_Charges.l0]
    rw [if_neg (by omega), List.drop_eq_nil_of_le (by omega)]
    exact ⟨fun _ => rfl, fun ⟨_, h, _⟩ => by cases h⟩
  | succ d ih =>
    intro j k hj hk
    obtain ⟨k, rfl⟩ : ∃ m, k = m + 1 := ⟨k - 1, by omega⟩
    have hjl : j < c.length := by omega
    obtain ⟨i1, i2⟩ := ih (j + 1) k (by omega) (by omega)
    simp only [spigotref40_Charges.l0]
    rw [if_pos (by omega), if_pos (by omega), rdC_at hjl, cdrop hjl, wj (by omega)]
    by_cases b : cbad c[j]
    · refine ⟨fun h => absurd ⟨_, List.mem_cons_self, b⟩ h, fun _ => ?_⟩
      rcases b with b | b
      · rw [if_pos b]
      · rw [if_neg (by omega), if_pos b]
    · have nb := b
      unfold cbad at nb
      rw [if_neg (by omega), if_neg (by omega)]
      constructor
      · intro h
        rw [i1 fun ⟨x, hx, g⟩ => h ⟨x, List.mem_cons_of_mem _ hx, g⟩, show k - d - 1 = k + 1 - (d + 1) - 1 by omega]
      · rintro ⟨x, hx, g⟩
        rcases List.mem_cons.1 hx with e | e
        · rw [e] at g
          exact absurd g b
        · exact i2 ⟨x, e, g⟩
theorem Charges_eq (c : List S62) (hn : c.length ≤ 1000000) : ∃ x : Int, (∀ k, 200 ≤ k → curve_Charges.f k c = some x ∧ spigotref40_Charges.f k c = some x) ∧ (x = 0 ↔ cO c) ∧ x ≠ 6 := by
  by_cases h1 : 60 < c.length
  · refine ⟨4, fun k _ => ?_, ⟨fun h => absurd h (by decide), fun h => ?_⟩, by decide⟩
    · unfold curve_Charges.f spigotref40_Charges.f
      rw [if_pos (by omega), if_pos (by omega)]
      exact ⟨rfl, rfl⟩
    · have := h.1
      omega
  · by_cases h2 : ∃ x ∈ c, cbad x
    · refine ⟨8, fun k hk => ?_, ⟨fun h => absurd h (by decide), fun h => ?_⟩, by decide⟩
      · unfold curve_Charges.f spigotref40_Charges.f
        rw [if_neg (by omega), if_neg (by omega)]
        obtain ⟨b, e, hb⟩ := bad_any c hn k (by omega) 0
        rw [e]
        simp only [Option.bind_some]
        rw [if_pos (hb.2 h2)]
        have r := (rcost_loop c hn c.length 0 k (by omega) (by omega)).2 (by rw [List.drop_zero]; exact h2)
        exact ⟨rfl, r⟩
      · obtain ⟨x, hx, g⟩ := h2
        have := h.2.1 x hx
        unfold cbad at g
        omega
    · refine ⟨oW c (c.length - 1) 1, fun k hk => ?_, ?_, oW_six c _ _⟩
      · unfold curve_Charges.f spigotref40_Charges.f
        rw [if_neg (by omega), if_neg (by omega)]
        obtain ⟨b, e, hb⟩ := bad_any c hn k (by omega) 0
        rw [e]
        simp only [Option.bind_some]
        rw [if_neg (fun g => h2 (hb.1 g))]
        have r := (rcost_loop c hn c.length 0 k (by omega) (by omega)).1 (by rw [List.drop_zero]; exact h2)
        rw [show (0 : Int) = ((0 : Nat) : Int) from rfl, r]
        obtain ⟨k, rfl⟩ : ∃ m, k = m + 1 := ⟨k - 1, by omega⟩
        by_cases z : c.length = 0
        · obtain ⟨q, hq⟩ : ∃ q, k + 1 - c.length - 1 = q + 1 := ⟨k + 1 - c.length - 1 - 1, by omega⟩
          rw [hq]
          simp only [curve_Charges.l0, spigotref40_Charges.l1]
          rw [if_neg (by omega), if_neg (by omega), z]
          exact ⟨rfl, rfl⟩
        · refine ⟨?_, (ord_loop c hn (c.length - 1) 1 _ (by omega) (by omega) (by omega)).2⟩
          simp only [curve_Charges.l0]
          rw [if_pos (by omega), if_neg (by omega), wj (by omega)]
          exact (ord_loop c hn (c.length - 1) 1 k (by omega) (by omega) (by omega)).1
      · rw [oW_zero c _ 1 (by omega)]
        constructor
        · intro h
          refine ⟨by omega, fun x hx => ?_, fun a b hab hb => ?_⟩
          · have : ¬ cbad x := fun g => h2 ⟨x, hx, g⟩
            unfold cbad at this
            omega
          · induction b with
            | zero => rw [show a = 0 by omega]; exact Int.le_refl _
            | succ b ih =>
              by_cases e : a = b + 1
              · rw [e]; exact Int.le_refl _
              · exact Int.le_trans (ih (by omega) (by omega)) (h b (by omega) (by omega))
        · intro h a h1 h2
          exact h.2.2 a (a + 1) (by omega) (by omega)
/-! #### the first charge that is too much -/
def fI (l : List S49) (c : List S62) (i : Nat) : Int → Nat → Option Nat
  | _, 0 => none
  | s, m + 1 => if s + (rd_T62 c (m : Int)).f1 > cVal l ((rd_T62 c (i : Int)).f0 - (rd_T62 c (m : Int)).f0) then some m else fI l c i (s + (rd_T62 c (m : Int)).f1) m
def fO (l : List S49) (c : List S62) : Nat → Nat → Option (Nat × Nat)
  | 0, _ => none
  | d + 1, i => match fI l c i 0 (i + 1) with
    | some j => some (j, i)
    | none => fO l c d (i + 1)
def rP : Option (Nat × Nat) → Int × Int × Int
  | none => (0, 0, 6)
  | some (j, i) => ((j : Int), (i : Int), 0)
def rR : Option (Nat × Nat) → Int × Int
  | none => (-1, -1)
  | some (j, i) => ((j : Int), (i : Int))
theorem inner_loop (l : List S49) (c : List S62) (hl : cC l) (hc : cO c) (hu : ∀ x ∈ c, U64 x.f0) (i : Nat) (hi : i < c.length) (K : Nat) (hK : 320 ≤ K) (R : Option (Nat × Nat))
    (h1 : ∀ k, K ≤ k → curve_First.l0 k l c ((i + 1 : Nat) : Int) = some (rP R)) (h2 : ∀ k, K ≤ k → spigotref40_first.l0 k l c ((i + 1 : Nat) : Int) = some (rR R)) :
    ∀ (m k : Nat) (s : Int), m ≤ i + 1 → 0 ≤ s → s ≤ ((i + 1 - m : Nat) : Int) * 1000000000 → K + m + 1 ≤ k →
    curve_First.l1 k l c (i : Int) s ((m : Int) - 1) = some (rP (match fI l c i s m with | some j => some (j, i) | none => R)) ∧ spigotref40_first.l1 k l c (i : Int) s ((m : Int) - 1) = some (rR (match fI l c i s m with | some j => some (j, i) | none => R)) := by
  have h60 := hc.1
  intro m
  induction m with
  | zero =>
    intro k s hm hs hs' hk
    obtain ⟨k, rfl⟩ : ∃ m, k = m + 1 := ⟨k - 1, by omega⟩
    simp only [curve_First.l1, spigotref40_first.l1]
    rw [if_neg (by omega), if_neg (by omega), wj (by omega)]
    unfold fI
    exact ⟨h1 k (by omega), h2 k (by omega)⟩
  | succ m ih =>
    intro k s hm hs hs' hk
    obtain ⟨k, rfl⟩ : ∃ m, k = m + 1 := ⟨k - 1, by omega⟩
    have hml : m < c.length := by omega
    have em : (((m + 1 : Nat) : Int) - 1) = (m : Int) := by omega
    have c0 := hc.2.1 _ (List.getElem_mem hml)
    have o0 := hc.2.2 m i (by omega) hi
    have u1 := hu _ (List.getElem_mem hi)
    have u0 := hu _ (List.getElem_mem hml)
    rw [← rdC_at hml] at c0 u0
    rw [← rdC_at hi] at u1
    have un : U64 ((rd_T62 c (i : Int)).f0 - (rd_T62 c (m : Int)).f0) := by obtain ⟨_, _⟩ := u1; obtain ⟨_, _⟩ := u0; exact ⟨by omega, by omega⟩
    obtain ⟨v1, v2⟩ := value_ok hl un k (by omega)
    have ew : wrap64 (s + (rd_T62 c (m : Int)).f1) = s + (rd_T62 c (m : Int)).f1 := wrap64_id (by omega) (by omega)
    simp only [curve_First.l1, spigotref40_first.l1]
    rw [em, wrap_id un, v1, v2, if_pos (by omega), if_pos (by omega), if_pos (by omega), if_pos (by omega), if_pos (by omega), if_pos (by omega), if_pos (by omega), if_pos (by omega), if_pos (by omega)]
    simp only [Option.bind_some]
    rw [ew]
    unfold fI
    by_cases g : s + (rd_T62 c (m : Int)).f1 > cVal l ((rd_T62 c (i : Int)).f0 - (rd_T62 c (m : Int)).f0)
    · rw [if_pos g, if_pos g, if_pos g]
      exact ⟨rfl, rfl⟩
    · rw [if_neg g, if_neg g, if_neg g, wrap64_id (x := (m : Int) - 1) (by omega) (by omega)]
      exact ih k _ (by omega) (by omega) (by omega) (by omega)
theorem outer_loop (l : List S49) (c : List S62) (hl : cC l) (hc : cO c) (hu : ∀ x ∈ c, U64 x.f0) :
    ∀ (d i k : Nat), i + d = c.length → d * 64 + 330 ≤ k → curve_First.l0 k l c (i : Int) = some (rP (fO l c d i)) ∧ spigotref40_first.l0 k l c (i : Int) = some (rR (fO l c d i)) := by
  have h60 := hc.1
  intro d
  induction d with
  | zero =>
    intro i k hi hk
    obtain ⟨k, rfl⟩ : ∃ m, k = m + 1 := ⟨k - 1, by omega⟩
    simp only [curve_First.l0, spigotref40_first.l0]
    rw [if_neg (by omega), if_neg (by omega)]
    exact ⟨rfl, rfl⟩
  | succ d ih =>
    intro i k hi hk
    obtain ⟨k, rfl⟩ : ∃ m, k = m + 1 := ⟨k - 1, by omega⟩
    simp only [curve_First.l0, spigotref40_first.l0]
    rw [if_pos (by omega), if_pos (by omega), if_pos (by omega)]
    have e := inner_loop l c hl hc hu i (by omega) (d * 64 + 330) (by omega) (fO l c d (i + 1)) (fun k hk => (ih (i + 1) k (by omega) hk).1) (fun k hk => (ih (i + 1) k (by omega) hk).2) (i + 1) k 0 (by omega) (by omega) (by omega) (by omega)
    rw [show ((i + 1 : Nat) : Int) - 1 = (i : Int) by omega] at e
    unfold fO
    cases g : fI l c i 0 (i + 1) with
    | none => rw [g] at e; exact e
    | some j => rw [g] at e; exact e
theorem first_ok {l : List S49} {c : List S62} (hl : cC l) (hc : cO c) (hu : ∀ x ∈ c, U64 x.f0) (k : Nat) (hk : 4500 ≤ k) :
    curve_First.f k l c = some (rP (fO l c c.length 0)) ∧ spigotref40_first.f k l c = some (rR (fO l c c.length 0)) := by
  have h60 := hc.1
  obtain ⟨c1, c2⟩ := cCheck_ok hl k (by omega)
  obtain ⟨x, hx, h0, _⟩ := Charges_eq c (by omega)
  obtain ⟨x1, x2⟩ := hx k (by omega)
  rw [h0.2 hc] at x1 x2
  obtain ⟨e1, e2⟩ := outer_loop l c hl hc hu c.length 0 k (by omega) (by omega)
  refine ⟨?_, e2⟩
  unfold curve_First.f curve_both.f
  rw [c1]
  simp only [Option.bind_some, ↓reduceIte]
  rw [x1]
  simp only [Option.bind_some, ↓reduceIte]
  rw [if_pos h60]
  exact e1
/-! #### what is at most a value -/
def bq (n : Int) (x : S49) : Int := x.f0 + n * x.f1 / x.f2
theorem vStep_le {n m s : Int} {x : S49} (h0 : 0 ≤ x.f0) (hm : m ≤ 1000000000000) : (s ≤ vStep n m x ↔ s ≤ m ∧ s ≤ bq n x) ∧ vStep n m x ≤ 1000000000000 := by
  unfold vStep bq mn
  split
  · split <;> omega
  · omega
theorem cVal_le {l : List S49} (hl : ∀ x ∈ l, lO x) (n : Int) : ∀ (m s : Int), m ≤ 1000000000000 → (s ≤ l.foldl (vStep n) m ↔ s ≤ m ∧ ∀ x ∈ l, s ≤ bq n x) := by
  induction l with
  | nil => exact fun m s _ => ⟨fun h => ⟨h, fun x hx => by cases hx⟩, fun h => h.1⟩
  | cons x l ih =>
    intro m s hm
    have h0 : 0 ≤ x.f0 := by have := (hl x List.mem_cons_self).1; omega
    obtain ⟨v1, v2⟩ := vStep_le (s := s) (n := n) h0 hm
    rw [List.foldl_cons, ih (fun y hy => hl y (List.mem_cons_of_mem _ hy)) _ s v2, v1, List.forall_mem_cons, and_assoc]
theorem le_cVal {l : List S49} (hl : ∀ x ∈ l, lO x) (n s : Int) : s ≤ cVal l n ↔ s ≤ 1000000000000 ∧ ∀ x ∈ l, s ≤ bq n x := cVal_le hl n _ s (Int.le_refl _)
/-- A valid bucket; one whose fields are in their ranges; refilled; with a cost less. -/
def bV (x : S51) : Prop := VB x.f0.f0 x.f0.f1 x.f0.f2 x.f1 x.f2 x.f3
def bR (x : S51) : Prop := I64 x.f0.f0 ∧ I64 x.f0.f1 ∧ I64 x.f0.f2 ∧ I64 x.f1 ∧ I64 x.f2 ∧ U64 x.f3
def bfill (t : Int) (x : S51) : S51 := ⟨x.f0, fL x.f0.f0 x.f0.f1 x.f0.f2 x.f1 x.f2 x.f3 t, fP x.f0.f0 x.f0.f1 x.f0.f2 x.f1 x.f2 x.f3 t, fT x.f3 t⟩
def bsub (c : Int) (x : S51) : S51 := ⟨x.f0, x.f1 - c, x.f2, x.f3⟩
theorem bfill_valid {t : Int} {x : S51} (h : bV x) (ht : U64 t) : bV (bfill t x) := fill_valid h ht
theorem bsub_valid {c : Int} {x : S51} (h : bV x) (h0 : 0 ≤ c) (h1 : c ≤ x.f1) : bV (bsub c x) := charge_valid h h0 h1
theorem rdB_at {l : List S51} {j : Nat} (h : j < l.length) : rd_T51 l (j : Int) = l[j] := by
  unfold rd_T51
  rw [List.getD_eq_getElem?_getD, Int.toNat_natCast, List.getElem?_eq_getElem h]
  rfl
theorem drop_cons {α : Type} {l : List α} {j : Nat} (h : j < l.length) : l.drop j = l[j] :: l.drop (j + 1) := List.drop_eq_getElem_cons h
/-! #### costs below 0 -/
theorem neg_idx (cs : List Int) (hn : cs.length ≤ 1000000) : ∀ (d j k : Nat), j + d = cs.length → d + 2 ≤ k → ∃ i : Int, slices_IndexFunc_int64_c70.l0 k cs (cs.length : Int) (j : Int) = some i ∧ (0 ≤ i ↔ ∃ c ∈ cs.drop j, c < 0) := by
  intro d
  induction d with
  | zero =>
    intro j k hj hk
    obtain ⟨k, rfl⟩ : ∃ m, k = m + 1 := ⟨k - 1, by omega⟩
    simp only [slices_IndexFunc_int64_c70.l0]
    rw [if_neg (by omega), List.drop_eq_nil_of_le (by omega)]
    exact ⟨-1, rfl, fun h => absurd h (by decide), fun ⟨_, h, _⟩ => by cases h⟩
  | succ d ih =>
    intro j k hj hk
    obtain ⟨k, rfl⟩ : ∃ m, k = m + 1 := ⟨k - 1, by omega⟩
    have hjl : j < cs.length := by omega
    simp only [slices_IndexFunc_int64_c70.l0]
    rw [if_pos (by omega), if_pos (by omega), if_pos (by omega), rd_at hjl, drop_cons hjl]
    simp only [levels_check_1.f, Option.bind_some]
    by_cases c : cs[j] < 0
    · rw [if_pos (decide_eq_true c)]
      exact ⟨j, rfl, fun _ => ⟨_, List.mem_cons_self, c⟩, fun _ => by omega⟩
    · rw [if_neg (by simpa using c), wj (by omega)]
      obtain ⟨i, e, h⟩ := ih (j + 1) k (by omega) (by omega)
      refine ⟨i, e, h.trans ⟨fun ⟨x, hx, h0⟩ => ⟨x, List.mem_cons_of_mem _ hx, h0⟩, fun ⟨x, hx, h0⟩ => ?_⟩⟩
      rcases List.mem_cons.1 hx with g | g
      · rw [g] at h0
        exact absurd h0 c
      · exact ⟨x, g, h0⟩
theorem neg_any (cs : List Int) (hn : cs.length ≤ 1000000) (k : Nat) (hk : cs.length + 2 ≤ k) (z : Int) : ∃ b, slices_ContainsFunc_int64_c70.f k cs z = some b ∧ (b = true ↔ ∃ c ∈ cs, c < 0) := by
  obtain ⟨i, e, h⟩ := neg_idx cs hn cs.length 0 k (by omega) (by omega)
  unfold slices_ContainsFunc_int64_c70.f slices_IndexFunc_int64_c70.f
  rw [show (0 : Int) = ((0 : Nat) : Int) from rfl, e]
  rw [List.drop_zero] at h
  exact ⟨_, rfl, by rw [decide_eq_true_iff]; exact h⟩
/-! #### checks -/
theorem check_loop (l : List S51) (cs : List Int) (hn : cs.length ≤ 1000000) (hl : l.length ≤ 8) : ∀ (d j k : Nat), j + d = l.length → d + cs.length + 4 ≤ k →
    ((∀ x ∈ l.drop j, bV x) → ∃ b, levels_check.l0 k l cs (l.length : Int) (j : Int) = some (if b = true then 2 else 0) ∧ (b = true ↔ ∃ c ∈ cs, c < 0)) ∧
    ((∀ x ∈ l, bR x) → ¬ (∀ x ∈ l.drop j, bV x) → levels_check.l0 k l cs (l.length : Int) (j : Int) = some 8) := by
  intro d
  induction d with
  | zero =>
    intro j k hj hk
    obtain ⟨k, rfl⟩ : ∃ m, k = m + 1 := ⟨k - 1, by omega⟩
    simp only [levels_check.l0]
    rw [if_neg (by omega), List.drop_eq_nil_of_le (by omega)]
    refine ⟨fun _ => ?_, fun _ h => absurd (fun x hx => by cases hx) h⟩
    obtain ⟨b, e, h⟩ := neg_any cs hn k (by omega) 0
    rw [e]
    refine ⟨b, ?_, h⟩
    simp only [Option.bind_some]
    split <;> rfl
  | succ d ih =>
    intro j k hj hk
    obtain ⟨k, rfl⟩ : ∃ m, k = m + 1 := ⟨k - 1, by omega⟩
    have hjl : j < l.length := by omega
    obtain ⟨i1, i2⟩ := ih (j + 1) k (by omega) (by omega)
    simp only [levels_check.l0]
    rw [if_pos (by omega), if_pos (by omega), if_pos (by omega), rdB_at hjl, drop_cons hjl, wj (by omega)]
    constructor
    · intro h
      rw [Check_ok (h _ List.mem_cons_self)]
      simp only [Option.bind_some, ↓reduceIte]
      exact i1 fun x hx => h x (List.mem_cons_of_mem _ hx)
    · intro hr h
      by_cases c : bV l[j]
      · rw [Check_ok c]
        simp only [Option.bind_some, ↓reduceIte]
        refine i2 hr fun g => h fun x hx => ?_
        rcases List.mem_cons.1 hx with e | e
        · rw [e]
          exact c
        · exact g x e
      · have hx := hr l[j] (List.getElem_mem hjl)
        rw [Check_bad hx.2.2.2.2.2 hx.2.2.2.1 c]
        rfl
/-- A valid row. -/
def lV (l : List S51) : Prop := l.length ≤ 8 ∧ ∀ x ∈ l, bV x
theorem check_ok {l : List S51} (h : lV l) (cs : List Int) (hn : cs.length ≤ 1000000) (k : Nat) (hk : cs.length + 12 ≤ k) (hc : ∀ c ∈ cs, 0 ≤ c) : levels_check.f k l cs = some 0 := by
  unfold levels_check.f
  obtain ⟨h1, h2⟩ := h
  rw [if_neg (by omega)]
  obtain ⟨b, e, g⟩ := (check_loop l cs hn h1 l.length 0 k (by omega) (by omega)).1 (by rw [List.drop_zero]; exact h2)
  rw [show (0 : Int) = ((0 : Nat) : Int) from rfl, e]
  have : ¬ b = true := fun hb => by obtain ⟨c, m, n⟩ := g.1 hb; have := hc c m; omega
  rw [if_neg this]
  rfl
theorem clone_ok {l : List S51} (h : l.length ≤ 1000000) : slices_Clone_api_Bucket.f l = some l := by
  unfold slices_Clone_api_Bucket.f
  simp only [Option.bind_some, List.length_nil, List.nil_append]
  rw [if_pos (by omega)]
theorem fill_loop (l : List S51) (t : Int) (ht : U64 t) (hn : l.length ≤ 1000000) (hv : ∀ x ∈ l, bV x) : ∀ (d j k : Nat), j + d = l.length → d + 25 ≤ k → levels_fill.l0 k t ((l.map (bfill t)).take j ++ l.drop j) (l.length : Int) (j : Int) = some (l.map (bfill t)) := by
  intro d
  induction d with
  | zero =>
    intro j k hj hk
    obtain ⟨k, rfl⟩ : ∃ m, k = m + 1 := ⟨k - 1, by omega⟩
    simp only [levels_fill.l0]
    rw [if_neg (by omega), List.drop_eq_nil_of_le (by omega), List.take_of_length_le (by rw [List.length_map]; omega), List.append_nil]
  | succ d ih =>
    intro j k hj hk
    obtain ⟨k, rfl⟩ : ∃ m, k = m + 1 := ⟨k - 1, by omega⟩
    have hjl : j < l.length := by omega
    have hlen := walk_len (bfill t) l j (by omega)
    have hj' : j < ((l.map (bfill t)).take j ++ l.drop j).length := by omega
    simp only [levels_fill.l0]
    rw [if_pos (by omega), if_pos (by omega), if_pos (by omega), rdB_at hj', walk_get (bfill t) l hjl hj']
    rw [Refill_ok k (by omega) (hv _ (List.getElem_mem hjl)) ht]
    simp only [Option.bind_some, Int.toNat_natCast]
    have e := set_walk (bfill t) l hjl
    unfold bfill at e
    rw [wj (by omega)]
    refine Eq.trans ?_ (ih (j + 1) k (by omega) (by omega))
    congr 1
theorem fill_row {l : List S51} {t : Int} (ht : U64 t) (hn : l.length ≤ 1000000) (hv : ∀ x ∈ l, bV x) (k : Nat) (hk : l.length + 25 ≤ k) : levels_fill.f k l t = some (l.map (bfill t)) := by
  unfold levels_fill.f
  rw [clone_ok hn]
  simp only [Option.bind_some]
  have e := fill_loop l t ht hn hv l.length 0 k (by omega) hk
  rw [List.take_zero, List.drop_zero, List.nil_append] at e
  exact e
def lHolds (l : List S51) (c : Int) : Bool := !(l.any fun b => decide (b.f1 < c))
theorem lHolds_iff {l : List S51} {c : Int} : lHolds l c = true ↔ ∀ x ∈ l, c ≤ x.f1 := by
  unfold lHolds
  rw [Bool.not_eq_true', List.any_eq_false]
  constructor
  · intro h x hx
    have := h x hx
    rw [decide_eq_true_iff] at this
    omega
  · intro h x hx
    have := h x hx
    rw [decide_eq_true_iff]
    omega
theorem holds_row (l : List S51) (c : Int) : levels_holds.f l c = some (lHolds l c) := rfl
def lTake (l : List S51) (t c : Int) : List S51 × Bool := if lHolds (l.map (bfill t)) c = true then ((l.map (bfill t)).map (bsub c), true) else (l.map (bfill t), false)
theorem bsub_wrap {c : Int} {x : S51} (h : bV x) (h0 : 0 ≤ c) (h1 : c ≤ x.f1) : wrap64 (x.f1 - c) = x.f1 - c := by
  obtain ⟨⟨_, _, _⟩, _, _, _⟩ := h
  exact wrap64_id (by omega) (by omega)
theorem take_loop (l : List S51) (c : Int) (h0 : 0 ≤ c) (hn : l.length ≤ 1000000) (hv : ∀ x ∈ l, bV x) (hc : ∀ x ∈ l, c ≤ x.f1) : ∀ (d j k : Nat), j + d = l.length → d + 1 ≤ k → levels_take.l0 k c ((l.map (bsub c)).take j ++ l.drop j) (l.length : Int) (j : Int) = some (l.map (bsub c), true) := by
  intro d
  induction d with
  | zero =>
    intro j k hj hk
    obtain ⟨k, rfl⟩ : ∃ m, k = m + 1 := ⟨k - 1, by omega⟩
    simp only [levels_take.l0]
    rw [if_neg (by omega), List.drop_eq_nil_of_le (by omega), List.take_of_length_le (by rw [List.length_map]; omega), List.append_nil]
  | succ d ih =>
    intro j k hj hk
    obtain ⟨k, rfl⟩ : ∃ m, k = m + 1 := ⟨k - 1, by omega⟩
    have hjl : j < l.length := by omega
    have hlen := walk_len (bsub c) l j (by omega)
    have hj' : j < ((l.map (bsub c)).take j ++ l.drop j).length := by omega
    simp only [levels_take.l0]
    rw [if_pos (by omega), if_pos (by omega), if_pos (by omega), rdB_at hj', walk_get (bsub c) l hjl hj', bsub_wrap (hv _ (List.getElem_mem hjl)) h0 (hc _ (List.getElem_mem hjl))]
    simp only [Int.toNat_natCast]
    have e := set_walk (bsub c) l hjl
    unfold bsub at e
    rw [wj (by omega)]
    refine Eq.trans ?_ (ih (j + 1) k (by omega) (by omega))
    congr 1
theorem map_valid {l : List S51} {t : Int} (ht : U64 t) (hv : ∀ x ∈ l, bV x) : ∀ x ∈ l.map (bfill t), bV x := by
  intro x hx
  obtain ⟨y, hy, rfl⟩ := List.mem_map.1 hx
  exact bfill_valid (hv y hy) ht
theorem take_row {l : List S51} {t c : Int} (ht : U64 t) (h0 : 0 ≤ c) (hn : l.length ≤ 1000000) (hv : ∀ x ∈ l, bV x) (k : Nat) (hk : l.length + 25 ≤ k) : levels_take.f k l t c = some (lTake l t c) := by
  unfold levels_take.f
  rw [fill_row ht hn hv k hk]
  simp only [Option.bind_some]
  rw [holds_row]
  simp only [Option.bind_some]
  unfold lTake
  by_cases g : lHolds (l.map (bfill t)) c = true
  · rw [if_pos g, if_pos g]
    have e := take_loop (l.map (bfill t)) c h0 (by rw [List.length_map]; exact hn) (map_valid ht hv) (lHolds_iff.1 g) (l.map (bfill t)).length 0 k (by omega) (by rw [List.length_map]; omega)
    rw [List.take_zero, List.drop_zero, List.nil_append] at e
    exact e
  · rw [if_neg g, if_neg g]
/-! #### the least level -/
theorem Take_row {l : List S51} {t c : Int} (hv : lV l) (ht : U64 t) (h0 : 0 ≤ c) (k : Nat) (hk : 60 ≤ k) : levels_Take.f k l t c = some ((lTake l t c).1, (lTake l t c).2, 0) := by
  unfold levels_Take.f
  rw [check_ok hv [c] (by simp) k (by simp; omega) (by simpa using h0)]
  simp only [Option.bind_some, ↓reduceIte]
  rw [take_row ht h0 (by have := hv.1; omega) hv.2 k (by have := hv.1; omega)]
  rfl
section
variable {b r p l q s t u c : Int}
/-- The parts of a bucket, refilled at t. -/
def fA (b r p l q s t : Int) : Int := fL b r p l q s t * p + fP b r p l q s t
theorem fA_eq (hv : VB b r p l q s) : fA b r p l q s t = if t ≤ s then l * p + q else if l * p + q + (t - s) * r < b * p then l * p + q + (t - s) * r else b * p := by
  unfold fA
  by_cases h : t ≤ s
  · rw [if_pos h]
    unfold fL fP
    rw [if_pos h, if_pos h]
  · rw [if_neg h]
    obtain ⟨f1, f2⟩ := fill_amt hv (by omega : s ≤ t)
    by_cases g : l * p + q + (t - s) * r < b * p
    · rw [if_pos g, f1 g]
    · rw [if_neg g]
      obtain ⟨e1, e2⟩ := f2 (by omega)
      rw [e1, e2]
      omega
theorem amt_le (hv : VB b r p l q s) : 0 ≤ l * p + q ∧ l * p + q ≤ b * p := by
  obtain ⟨⟨b0, b1, r0, r1, p0, p1⟩, l0, l1, q0, q1, hf, hs⟩ := hv
  have h0 := Int.mul_nonneg l0 (by omega : 0 ≤ p)
  rcases Int.lt_or_le l b with g | g
  · have := Int.mul_le_mul_of_nonneg_right (by omega : l + 1 ≤ b) (by omega : 0 ≤ p)
    rw [Int.add_mul, Int.one_mul] at this
    omega
  · have e : l = b := by omega
    subst e
    have := hf rfl
    omega
/-- Level and Part are known by the parts. -/
theorem of_fA {b' r' l' q' s' t' : Int} (hv : VB b r p l q s) (hv' : VB b' r' p l' q' s') (ht : U64 t) (ht' : U64 t') (h : fA b r p l q s t = fA b' r' p l' q' s' t') : fL b r p l q s t = fL b' r' p l' q' s' t' ∧ fP b r p l q s t = fP b' r' p l' q' s' t' := by
  obtain ⟨_, _, _, a0, a1, _⟩ := fill_valid hv ht
  obtain ⟨_, _, _, b0, b1, _⟩ := fill_valid hv' ht'
  exact amt_inj a0 a1 b0 b1 h
theorem fill_fill (hv : VB b r p l q s) (hu : U64 u) (ht : U64 t) (h : u ≤ t) :
    fL b r p (fL b r p l q s u) (fP b r p l q s u) (fT s u) t = fL b r p l q s t ∧ fP b r p (fL b r p l q s u) (fP b r p l q s u) (fT s u) t = fP b r p l q s t ∧ fT (fT s u) t = fT s t := by
  have hw := fill_valid hv hu
  have e3 : fT (fT s u) t = fT s t := by unfold fT; split <;> split <;> (try split) <;> omega
  have key : fA b r p (fL b r p l q s u) (fP b r p l q s u) (fT s u) t = fA b r p l q s t := by
    rw [fA_eq hw, fA_eq hv]
    have e : fL b r p l q s u * p + fP b r p l q s u = fA b r p l q s u := rfl
    rw [e, fA_eq hv]
    have r0 := hv.1.2.2.1
    by_cases c1 : u ≤ s
    · have e2 : fT s u = s := by unfold fT; rw [if_pos c1]
      rw [if_pos c1, e2]
    · have e2 : fT s u = u := by unfold fT; rw [if_neg c1]
      rw [if_neg c1, e2]
      have m1 : (t - s) * r = (u - s) * r + (t - u) * r := by rw [← Int.add_mul]; congr 1; omega
      have m2 := Int.mul_nonneg (by omega : 0 ≤ t - u) r0
      have m3 := Int.mul_nonneg (by omega : 0 ≤ u - s) r0
      by_cases c2 : t ≤ u
      · have e4 : t = u := by omega
        subst e4
        rw [if_pos (Int.le_refl _), if_neg c1]
      · rw [if_neg c2, if_neg (show ¬ t ≤ s by omega)]
        split <;> split <;> (try split) <;> omega
  obtain ⟨e1, e2⟩ := of_fA hw hv ht ht key
  exact ⟨e1, e2, e3⟩
/-- A bucket holds a cost exactly if its parts are enough. -/
theorem fL_iff (hv : VB b r p l q s) (ht : U64 t) : c ≤ fL b r p l q s t ↔ c * p ≤ fA b r p l q s t := by
  obtain ⟨⟨_, _, _, _, p0, _⟩, _, _, a0, a1, _⟩ := fill_valid hv ht
  unfold fA
  constructor
  · intro h
    have := Int.mul_le_mul_of_nonneg_right h (by omega : 0 ≤ p)
    omega
  · intro h
    rcases Int.lt_or_le (fL b r p l q s t) c with g | g
    · have := Int.mul_le_mul_of_nonneg_right (by omega : fL b r p l q s t + 1 ≤ c) (by omega : 0 ≤ p)
      rw [Int.add_mul, Int.one_mul] at this
      omega
    · exact g
end
/-- The parts of a bucket, refilled at t. -/
def bA (t : Int) (x : S51) : Int := fA x.f0.f0 x.f0.f1 x.f0.f2 x.f1 x.f2 x.f3 t
theorem bfill_fill {x : S51} {u t : Int} (hv : bV x) (hu : U64 u) (ht : U64 t) (h : u ≤ t) : bfill t (bfill u x) = bfill t x := by
  obtain ⟨e1, e2, e3⟩ := fill_fill hv hu ht h
  unfold bfill
  simp only
  rw [e1, e2, e3]
/-- The bucket holds the cost, refilled at t. -/
def bH (c t : Int) (x : S51) : Prop := c ≤ (bfill t x).f1
theorem bH_iff {x : S51} {c t : Int} (hv : bV x) (ht : U64 t) : bH c t x ↔ c * x.f0.f2 ≤ bA t x := fL_iff hv ht
/-! #### what a bucket holds behind charges -/
def full40 (t : Int) (x : S49) : S51 := ⟨x, x.f0, 0, t⟩
/-- The bucket behind the charges a, the last of them first. -/
def stc (t0 : Int) (x : S49) : List S62 → S51
  | [] => full40 t0 x
  | z :: a => bsub z.f1 (bfill z.f0 (stc t0 x a))
def lastT (t0 : Int) : List S62 → Int
  | [] => t0
  | z :: _ => z.f0
/-- Charges, the last first, each held and in order of time. -/
def held (l : List S49) (t0 : Int) : List S62 → Prop
  | [] => True
  | z :: a => held l t0 a ∧ U64 z.f0 ∧ 0 ≤ z.f1 ∧ lastT t0 a ≤ z.f0 ∧ ∀ x ∈ l, bH z.f1 z.f0 (stc t0 x a)
theorem stc_lim (t0 : Int) (x : S49) (a : List S62) : (stc t0 x a).f0 = x := by
  induction a with
  | nil => rfl
  | cons z a ih => exact ih
theorem bfill_late {t : Int} {y : S51} (h : t ≤ y.f3) : bfill t y = y := by
  unfold bfill fL fP fT
  rw [if_pos h, if_pos h, if_pos h]
theorem bfill_at (t : Int) (y : S51) : t ≤ (bfill t y).f3 := by
  show t ≤ fT y.f3 t
  unfold fT
  split <;> omega
theorem stc_ok {l : List S49} {t0 : Int} {x : S49} (hl : ∀ x ∈ l, lO x) (hx : x ∈ l) (u0 : U64 t0) : ∀ a, held l t0 a → bV (stc t0 x a) ∧ (stc t0 x a).f3 = lastT t0 a := by
  intro a
  induction a with
  | nil => exact fun _ => ⟨full_valid (hl x hx) u0, rfl⟩
  | cons z a ih =>
    rintro ⟨h1, h2, h3, h4, h5⟩
    obtain ⟨i1, i2⟩ := ih h1
    refine ⟨bsub_valid (bfill_valid i1 h2) h3 (h5 x hx), ?_⟩
    show fT (stc t0 x a).f3 z.f0 = z.f0
    rw [i2]
    unfold fT
    split <;> omega
theorem bA_thr {y : S51} {t s : Int} (hv : bV y) (h : y.f3 ≤ t) : s ≤ bA t y ↔ s ≤ y.f0.f0 * y.f0.f2 ∧ s ≤ y.f1 * y.f0.f2 + y.f2 + (t - y.f3) * y.f0.f1 := by
  unfold bA
  rw [fA_eq hv]
  obtain ⟨a0, a1⟩ := amt_le hv
  have m := Int.mul_nonneg (by omega : 0 ≤ t - y.f3) hv.1.2.2.1
  by_cases c : t ≤ y.f3
  · have e : t = y.f3 := by omega
    rw [if_pos c, e, Int.sub_self, Int.zero_mul]
    omega
  · rw [if_neg c]
    split <;> omega
def okP (x : S49) (t : Int) : Int → List S62 → Prop
  | _, [] => True
  | s, z :: a => s + z.f1 * x.f2 ≤ x.f0 * x.f2 + (t - z.f0) * x.f1 ∧ okP x t (s + z.f1 * x.f2) a
theorem okP_shift (x : S49) (t t' : Int) : ∀ (a : List S62) (s : Int), okP x t' (s - (t - t') * x.f1) a ↔ okP x t s a := by
  intro a
  induction a with
  | nil => exact fun s => Iff.rfl
  | cons z a ih =>
    intro s
    unfold okP
    rw [← ih (s + z.f1 * x.f2), show s - (t - t') * x.f1 + z.f1 * x.f2 = s + z.f1 * x.f2 - (t - t') * x.f1 by omega]
    have e : (t - z.f0) * x.f1 = (t - t') * x.f1 + (t' - z.f0) * x.f1 := by rw [← Int.add_mul]; congr 1; omega
    rw [e]
    constructor
    · exact fun h => ⟨by omega, h.2⟩
    · exact fun h => ⟨by omega, h.2⟩
theorem bA_stc {l : List S49} {t0 : Int} {x : S49} (hl : ∀ x ∈ l, lO x) (hx : x ∈ l) (u0 : U64 t0) : ∀ (a : List S62) (t s : Int), held l t0 a → lastT t0 a ≤ t → (s ≤ bA t (stc t0 x a) ↔ s ≤ x.f0 * x.f2 ∧ okP x t s a) := by
  intro a
  induction a with
  | nil =>
    intro t s ha ht
    obtain ⟨v, f⟩ := stc_ok hl hx u0 [] ha
    have m := Int.mul_nonneg (show 0 ≤ t - t0 by have : lastT t0 [] = t0 := rfl; omega) (hl x hx).2.2.1
    rw [bA_thr v (by rw [f]; exact ht)]
    unfold okP
    show (s ≤ x.f0 * x.f2 ∧ s ≤ x.f0 * x.f2 + 0 + (t - t0) * x.f1) ↔ _
    exact ⟨fun h => ⟨h.1, trivial⟩, fun h => ⟨h.1, by omega⟩⟩
  | cons z a ih =>
    intro t s ha ht
    obtain ⟨v, f⟩ := stc_ok hl hx u0 (z :: a) ha
    obtain ⟨h1, h2, h3, h4, h5⟩ := ha
    rw [bA_thr v (by rw [f]; exact ht), stc_lim, f]
    have e : (stc t0 x (z :: a)).f1 * x.f2 + (stc t0 x (z :: a)).f2 = bA z.f0 (stc t0 x a) - z.f1 * x.f2 := by
      have e1 : bA z.f0 (stc t0 x a) = (bfill z.f0 (stc t0 x a)).f1 * (stc t0 x a).f0.f2 + (bfill z.f0 (stc t0 x a)).f2 := rfl
      rw [e1, stc_lim]
      show ((bfill z.f0 (stc t0 x a)).f1 - z.f1) * x.f2 + (bfill z.f0 (stc t0 x a)).f2 = _
      rw [Int.sub_mul]
      omega
    rw [e]
    have i := ih z.f0 (s + z.f1 * x.f2 - (t - z.f0) * x.f1) h1 h4
    rw [okP_shift] at i
    unfold okP
    show (s ≤ x.f0 * x.f2 ∧ s ≤ bA z.f0 (stc t0 x a) - z.f1 * x.f2 + (t - z.f0) * x.f1) ↔ _
    rw [show s ≤ bA z.f0 (stc t0 x a) - z.f1 * x.f2 + (t - z.f0) * x.f1 ↔ s + z.f1 * x.f2 - (t - z.f0) * x.f1 ≤ bA z.f0 (stc t0 x a) by omega, i]
    exact ⟨fun h => ⟨h.1, by omega, h.2.2⟩, fun h => ⟨h.1, by omega, h.2.2⟩⟩
/-! #### below the curve -/
def okB (l : List S49) (t : Int) : Int → List S62 → Bool
  | _, [] => true
  | s, z :: a => decide (s + z.f1 ≤ cVal l (t - z.f0)) && okB l t (s + z.f1) a
theorem bq_iff {x : S49} (h : lO x) {s n : Int} : s ≤ bq n x ↔ s * x.f2 ≤ x.f0 * x.f2 + n * x.f1 := by
  have p0 : 0 < x.f2 := by have := h.2.2.2.2.1; omega
  unfold bq
  have e := Int.le_ediv_iff_mul_le (a := s - x.f0) (b := n * x.f1) p0
  rw [Int.sub_mul] at e
  exact ⟨fun h => by have := e.1 (by omega); omega, fun h => by have := e.2 (by omega); omega⟩
theorem okB_iff {l : List S49} (hl : ∀ x ∈ l, lO x) (t : Int) : ∀ (a : List S62) (s : Int), (∀ z ∈ a, z.f1 ≤ 1000000000) → s + (a.length : Int) * 1000000000 ≤ 1000000000000 → (okB l t s a = true ↔ ∀ x ∈ l, okP x t (s * x.f2) a) := by
  intro a
  induction a with
  | nil => exact fun s _ _ => ⟨fun _ x _ => trivial, fun _ => rfl⟩
  | cons z a ih =>
    intro s hz hs
    have z1 := hz z List.mem_cons_self
    rw [List.length_cons] at hs
    have i := ih (s + z.f1) (fun w hw => hz w (List.mem_cons_of_mem _ hw)) (by omega)
    unfold okB okP
    rw [Bool.and_eq_true, decide_eq_true_iff, i, le_cVal hl]
    constructor
    · rintro ⟨⟨_, h1⟩, h2⟩ x hx
      rw [← Int.add_mul]
      exact ⟨(bq_iff (hl x hx)).1 (h1 x hx), h2 x hx⟩
    · intro h
      refine ⟨⟨by omega, fun x hx => ?_⟩, fun x hx => ?_⟩
      · have := (h x hx).1
        rw [← Int.add_mul] at this
        exact (bq_iff (hl x hx)).2 this
      · have := (h x hx).2
        rw [← Int.add_mul] at this
        exact this
theorem hold_iff {l : List S49} {t0 : Int} (hl : ∀ x ∈ l, lO x) (u0 : U64 t0) (z : S62) (a : List S62) (ha : held l t0 a) (hz : ∀ w ∈ z :: a, w.f1 ≤ 1000000000) (hn : a.length ≤ 60) (uz : U64 z.f0) (ht : lastT t0 a ≤ z.f0) :
    (∀ x ∈ l, bH z.f1 z.f0 (stc t0 x a)) ↔ okB l z.f0 0 (z :: a) = true := by
  rw [okB_iff hl z.f0 (z :: a) 0 hz (by rw [List.length_cons]; omega)]
  have e : ∀ x ∈ l, (bH z.f1 z.f0 (stc t0 x a) ↔ okP x z.f0 (0 * x.f2) (z :: a)) := by
    intro x hx
    obtain ⟨v, f⟩ := stc_ok hl hx u0 a ha
    rw [bH_iff v uz, stc_lim, bA_stc hl hx u0 a z.f0 _ ha ht]
    show _ ↔ (0 * x.f2 + z.f1 * x.f2 ≤ x.f0 * x.f2 + (z.f0 - z.f0) * x.f1 ∧ okP x z.f0 (0 * x.f2 + z.f1 * x.f2) a)
    rw [Int.sub_self, Int.zero_mul, Int.zero_mul, Int.zero_add, Int.add_zero]
  exact ⟨fun h x hx => (e x hx).1 (h x hx), fun h x hx => (e x hx).2 (h x hx)⟩
/-- What passes of cs behind a: the last first. -/
def adm (l : List S49) : List S62 → List S62 → List S62
  | a, [] => a
  | a, z :: cs => if okB l z.f0 0 (z :: a) = true then adm l (z :: a) cs else adm l a cs
def conf (l : List S49) : List S62 → Bool
  | [] => true
  | z :: a => okB l z.f0 0 (z :: a) && conf l a
theorem adm_conf (l : List S49) : ∀ (cs a : List S62), conf l a = true → conf l (adm l a cs) = true := by
  intro cs
  induction cs with
  | nil => exact fun a h => h
  | cons z cs ih =>
    intro a h
    unfold adm
    split
    · rename_i g
      exact ih _ (by unfold conf; rw [Bool.and_eq_true]; exact ⟨g, h⟩)
    · exact ih _ h
theorem conf_tail (l : List S49) : ∀ (u v : List S62), conf l (u ++ v) = true → conf l v = true := by
  intro u
  induction u with
  | nil => exact fun v h => h
  | cons z u ih =>
    intro v h
    rw [List.cons_append] at h
    unfold conf at h
    rw [Bool.and_eq_true] at h
    exact ih v h.2
theorem adm_self (l : List S49) : ∀ (cs a : List S62), conf l (cs.reverse ++ a) = true → adm l a cs = cs.reverse ++ a := by
  intro cs
  induction cs with
  | nil => exact fun a _ => rfl
  | cons z cs ih =>
    intro a h
    rw [List.reverse_cons, List.append_assoc, List.singleton_append] at h ⊢
    have g := conf_tail l _ _ h
    unfold conf at g
    rw [Bool.and_eq_true] at g
    unfold adm
    rw [if_pos g.1]
    exact ih _ h
theorem adm_sub (l : List S49) : ∀ (cs a : List S62), List.Sublist (adm l a cs).reverse (a.reverse ++ cs) := by
  intro cs
  induction cs with
  | nil => intro a; rw [List.append_nil]; exact List.Sublist.refl _
  | cons z cs ih =>
    intro a
    unfold adm
    split
    · have h := ih (z :: a)
      rw [List.reverse_cons, List.append_assoc, List.singleton_append] at h
      exact h
    · exact (ih a).trans (List.Sublist.append (List.Sublist.refl _) (List.sublist_cons_self z cs))
/-! #### the first that is too much -/
theorem take_rev {c : List S62} {m : Nat} (h : m < c.length) : (c.take (m + 1)).reverse = c[m] :: (c.take m).reverse := by
  rw [← take_push c h, List.reverse_append]
  rfl
theorem fI_none (l : List S49) (c : List S62) (i : Nat) : ∀ (m : Nat) (s : Int), m ≤ c.length → (fI l c i s m = none ↔ okB l (rd_T62 c (i : Int)).f0 s (c.take m).reverse = true) := by
  intro m
  induction m with
  | zero => exact fun s _ => ⟨fun _ => rfl, fun _ => rfl⟩
  | succ m ih =>
    intro s h
    have hm : m < c.length := by omega
    rw [take_rev hm]
    unfold fI okB
    rw [rdC_at hm, Bool.and_eq_true, decide_eq_true_iff, ← ih _ (by omega)]
    split
    · exact ⟨fun h => by simp at h, fun h => by omega⟩
    · exact ⟨fun h => ⟨by omega, h⟩, fun h => h.2⟩
theorem fO_none (l : List S49) (c : List S62) : ∀ (d i : Nat), i + d = c.length → (fO l c d i = none ↔ ∀ j, i ≤ j → j < c.length → okB l (rd_T62 c (j : Int)).f0 0 (c.take (j + 1)).reverse = true) := by
  intro d
  induction d with
  | zero => exact fun i h => ⟨fun _ j h1 h2 => by omega, fun _ => rfl⟩
  | succ d ih =>
    intro i h
    unfold fO
    have e := fI_none l c i (i + 1) 0 (by omega)
    cases g : fI l c i 0 (i + 1) with
    | none =>
      rw [g] at e
      have e0 := e.1 rfl
      simp only
      rw [ih (i + 1) (by omega)]
      constructor
      · intro h j h1 h2
        by_cases c : j = i
        · rw [c]; exact e0
        · exact h j (by omega) h2
      · exact fun h j h1 h2 => h j (by omega) h2
    | some q =>
      rw [g] at e
      simp only
      exact ⟨fun h => by simp at h, fun h => absurd (e.2 (h i (by omega) (by omega))) (by simp)⟩
theorem conf_take (l : List S49) (c : List S62) : ∀ m, m ≤ c.length → (conf l (c.take m).reverse = true ↔ ∀ j, j < m → okB l (rd_T62 c (j : Int)).f0 0 (c.take (j + 1)).reverse = true) := by
  intro m
  induction m with
  | zero => exact fun _ => ⟨fun _ j h => by omega, fun _ => rfl⟩
  | succ m ih =>
    intro h
    have hm : m < c.length := by omega
    rw [take_rev hm]
    unfold conf
    rw [Bool.and_eq_true, ih (by omega)]
    constructor
    · rintro ⟨h1, h2⟩ j hj
      by_cases g : j = m
      · rw [g, rdC_at hm, take_rev hm]
        exact h1
      · exact h2 j (by omega)
    · intro h
      refine ⟨?_, fun j hj => h j (by omega)⟩
      have := h m (by omega)
      rw [rdC_at hm, take_rev hm] at this
      exact this
theorem first_conf (l : List S49) (c : List S62) : fO l c c.length 0 = none ↔ conf l c.reverse = true := by
  have h := conf_take l c c.length (Nat.le_refl _)
  rw [List.take_length] at h
  rw [fO_none l c c.length 0 (by omega), h]
  exact ⟨fun h j hj => h j (by omega) hj, fun h j _ hj => h j hj⟩
/-! #### the package's walks -/
theorem build_loop (l : List S49) (c : List S62) (hl : ∀ x ∈ l, lO x) (hn : l.length ≤ 1000000) (h0 : 0 < c.length) : ∀ (d j k : Nat), j + d = l.length → d + 1 ≤ k →
    curve_Pass.l0 k c ((l.map (full40 (rd_T62 c 0).f0)).take j) l (l.length : Int) (j : Int) = curve_Pass.l1 (k - d - 1) (l.map (full40 (rd_T62 c 0).f0)) [] c (c.length : Int) 0 := by
  intro d
  induction d with
  | zero =>
    intro j k hj hk
    obtain ⟨k, rfl⟩ : ∃ m, k = m + 1 := ⟨k - 1, by omega⟩
    simp only [curve_Pass.l0]
    rw [if_neg (by omega), List.take_of_length_le (by rw [List.length_map]; omega)]
    rfl
  | succ d ih =>
    intro j k hj hk
    obtain ⟨k, rfl⟩ : ∃ m, k = m + 1 := ⟨k - 1, by omega⟩
    have hjl : j < l.length := by omega
    have hjm : j < (l.map (full40 (rd_T62 c 0).f0)).length := by rw [List.length_map]; exact hjl
    simp only [curve_Pass.l0]
    rw [if_pos (by omega), if_pos (by omega), if_pos (by omega), if_pos (by omega), rdL_at hjl, Full_ok (hl _ (List.getElem_mem hjl))]
    simp only [Option.bind_some, ↓reduceIte]
    rw [if_pos (by rw [List.length_take]; omega), wj (by omega)]
    have e := take_push (l.map (full40 (rd_T62 c 0).f0)) hjm
    rw [List.getElem_map] at e
    have i := ih (j + 1) k (by omega) (by omega)
    rw [← e] at i
    rw [show k + 1 - (d + 1) - 1 = k - d - 1 by omega, ← i]
    rfl
theorem map_fill {l : List S49} {t0 u t : Int} (hl : ∀ x ∈ l, lO x) (u0 : U64 t0) (uu : U64 u) (ut : U64 t) (h : u ≤ t) (a : List S62) (ha : held l t0 a) :
    (l.map (fun x => bfill u (stc t0 x a))).map (bfill t) = l.map (fun x => bfill t (stc t0 x a)) := by
  rw [List.map_map]
  refine List.map_congr_left fun x hx => ?_
  exact bfill_fill (stc_ok hl hx u0 a ha).1 uu ut h
theorem pass_loop (l : List S49) (c : List S62) (hl : cC l) (hc : cO c) (hu : ∀ x ∈ c, U64 x.f0) (t0 : Int) (u0 : U64 t0) : ∀ (d j k : Nat) (a : List S62) (u : Int), j + d = c.length → d + 70 ≤ k → held l t0 a → a.length ≤ j → (∀ w ∈ a, w.f1 ≤ 1000000000) → U64 u → lastT t0 a ≤ u → (∀ q : Nat, j ≤ q → q < c.length → u ≤ (rd_T62 c (q : Int)).f0) →
    curve_Pass.l1 k (l.map (fun x => bfill u (stc t0 x a))) a.reverse c (c.length : Int) (j : Int) = some ((adm l a (c.drop j)).reverse, 0) := by
  have h60 := hc.1
  obtain ⟨l6, l0, lv⟩ := hl
  intro d
  induction d with
  | zero =>
    intro j k a u hj hk ha hal haw uu hlu hq
    obtain ⟨k, rfl⟩ : ∃ m, k = m + 1 := ⟨k - 1, by omega⟩
    simp only [curve_Pass.l1]
    rw [if_neg (by omega), List.drop_eq_nil_of_le (by omega)]
    rfl
  | succ d ih =>
    intro j k a u hj hk ha hal haw uu hlu hq
    obtain ⟨k, rfl⟩ : ∃ m, k = m + 1 := ⟨k - 1, by omega⟩
    have hjl : j < c.length := by omega
    have ut := hu _ (List.getElem_mem hjl)
    have cc := hc.2.1 _ (List.getElem_mem hjl)
    have hut := hq j (by omega) hjl
    rw [rdC_at hjl] at hut
    have hrow : lV (l.map (fun x => bfill u (stc t0 x a))) := ⟨by rw [List.length_map]; omega, fun y hy => by
      obtain ⟨x, hx, rfl⟩ := List.mem_map.1 hy
      exact bfill_valid (stc_ok lv hx u0 a ha).1 uu⟩
    simp only [curve_Pass.l1]
    rw [if_pos (by omega), if_pos (by omega), if_pos (by omega), rdC_at hjl, cdrop hjl, wj (by omega), Take_row hrow ut cc.1 k (by omega)]
    simp only [Option.bind_some, ↓reduceIte]
    unfold lTake
    rw [map_fill lv u0 uu ut hut a ha]
    have hq' : ∀ q : Nat, j + 1 ≤ q → q < c.length → c[j].f0 ≤ (rd_T62 c (q : Int)).f0 := fun q h1 h2 => by
      rw [← rdC_at hjl]
      exact hc.2.2 j q (by omega) h2
    have hw : ∀ w ∈ c[j] :: a, w.f1 ≤ 1000000000 := fun w hw => by
      rcases List.mem_cons.1 hw with e | e
      · rw [e]; exact cc.2
      · exact haw w e
    have hi := hold_iff lv u0 c[j] a ha hw (by omega) ut (by omega)
    have hh : lHolds (l.map (fun x => bfill c[j].f0 (stc t0 x a))) c[j].f1 = true ↔ okB l c[j].f0 0 (c[j] :: a) = true := by
      rw [lHolds_iff, ← hi]
      constructor
      · exact fun h x hx => h _ (List.mem_map.2 ⟨x, hx, rfl⟩)
      · intro h y hy
        obtain ⟨x, hx, rfl⟩ := List.mem_map.1 hy
        exact h x hx
    unfold adm
    by_cases g : okB l c[j].f0 0 (c[j] :: a) = true
    · rw [if_pos (hh.2 g), if_pos g]
      simp only [↓reduceIte]
      rw [if_pos (by rw [List.length_reverse]; omega)]
      have i := ih (j + 1) k (c[j] :: a) c[j].f0 (by omega) (by omega) ⟨ha, ut, cc.1, by omega, hi.2 g⟩ (by rw [List.length_cons]; omega) hw ut (Int.le_refl _) hq'
      rw [List.reverse_cons] at i
      rw [← i]
      congr 1
      rw [List.map_map]
      refine List.map_congr_left fun x hx => ?_
      exact (bfill_late (y := stc t0 x (c[j] :: a)) (bfill_at _ _)).symm
    · rw [if_neg (fun h => g (hh.1 h)), if_neg g]
      simp only [Bool.false_eq_true, ↓reduceIte]
      exact ih (j + 1) k a c[j].f0 (by omega) (by omega) ha (by omega) haw ut (by omega) hq'
theorem Pass_ok {l : List S49} {c : List S62} (hl : cC l) (hc : cO c) (hu : ∀ x ∈ c, U64 x.f0) (k : Nat) (hk : 400 ≤ k) : curve_Pass.f k l c = some ((adm l [] c).reverse, 0) := by
  have h60 := hc.1
  obtain ⟨c1, c2⟩ := cCheck_ok hl k (by omega)
  obtain ⟨x, hx, h0, _⟩ := Charges_eq c (by omega)
  obtain ⟨x1, x2⟩ := hx k (by omega)
  rw [h0.2 hc] at x1
  unfold curve_Pass.f curve_both.f
  rw [c1]
  simp only [Option.bind_some, ↓reduceIte]
  rw [x1]
  simp only [Option.bind_some, ↓reduceIte]
  obtain ⟨k, rfl⟩ : ∃ m, k = m + 1 := ⟨k - 1, by omega⟩
  simp only [curve_Pass.j0]
  by_cases z : c.length = 0
  · rw [if_pos (by rw [beq_iff_eq]; omega), List.eq_nil_of_length_eq_zero z]
    rfl
  · rw [if_neg (by rw [beq_iff_eq]; omega)]
    obtain ⟨l6, l0, lv⟩ := hl
    have b := build_loop l c lv (by omega) (by omega) l.length 0 k (by omega) (by omega)
    rw [List.take_zero] at b
    refine b.trans ?_
    have hz : 0 < c.length := by omega
    have e0 : rd_T62 c 0 = c[0] := rdC_at hz
    rw [e0]
    have u0 := hu _ (List.getElem_mem hz)
    have p := pass_loop l c ⟨l6, l0, lv⟩ hc hu c[0].f0 u0 c.length 0 (k - l.length - 1) [] c[0].f0 (by omega) (by omega) trivial (by simp) (fun w hw => by cases hw) u0 (Int.le_refl _) (fun q _ h2 => by have := hc.2.2 0 q (by omega) h2; rw [← e0]; exact this)
    rw [List.drop_zero, List.reverse_nil] at p
    refine Eq.trans ?_ p
    congr 1
    exact List.map_congr_left fun x _ => (bfill_late (y := full40 c[0].f0 x) (Int.le_refl _)).symm
/-! #### comparing -/
theorem same40_loop (a b : List S62) (hn : a.length ≤ 1000000) (h : a.length = b.length) : ∀ (d j k : Nat), j + d = a.length → d + 1 ≤ k → ∃ e, spigotref40_Same.l0 k a b (j : Int) = some e ∧ (e = true ↔ a.drop j = b.drop j) := by
  intro d
  induction d with
  | zero =>
    intro j k hj hk
    obtain ⟨k, rfl⟩ : ∃ m, k = m + 1 := ⟨k - 1, by omega⟩
    simp only [spigotref40_Same.l0]
    rw [if_neg (by omega), List.drop_eq_nil_of_le (by omega), List.drop_eq_nil_of_le (by omega)]
    exact ⟨true, rfl, fun _ => rfl, fun _ => rfl⟩
  | succ d ih =>
    intro j k hj hk
    obtain ⟨k, rfl⟩ : ∃ m, k = m + 1 := ⟨k - 1, by omega⟩
    have ha : j < a.length := by omega
    have hb : j < b.length := by omega
    obtain ⟨e, e1, e2⟩ := ih (j + 1) k (by omega) (by omega)
    simp only [spigotref40_Same.l0]
    rw [if_pos (by omega), if_pos (by omega), if_pos (by omega), rdC_at ha, rdC_at hb, cdrop ha, cdrop hb, wj (by omega), e1]
    generalize a[j] = x
    generalize b[j] = y
    obtain ⟨x0, x1⟩ := x
    obtain ⟨y0, y1⟩ := y
    by_cases c0 : x0 = y0
    · by_cases c1 : x1 = y1
      · subst c0 c1
        rw [if_neg (by simp)]
        exact ⟨e, rfl, e2.trans ⟨fun h => by rw [h], fun h => (List.cons.inj h).2⟩⟩
      · rw [if_pos (by simp [c1])]
        refine ⟨false, rfl, ⟨fun h => (by cases h), fun h => ?_⟩⟩
        have g := (List.cons.inj h).1
        injection g with g0 g1
        exact absurd g1 c1
    · rw [if_pos (by simp [c0])]
      refine ⟨false, rfl, ⟨fun h => (by cases h), fun h => ?_⟩⟩
      have g := (List.cons.inj h).1
      injection g with g0 g1
      exact absurd g0 c0
theorem same40 (a b : List S62) (hn : a.length ≤ 1000000) (k : Nat) (hk : a.length + 1 ≤ k) : ∃ e, spigotref40_Same.f k a b = some e ∧ (e = true ↔ a = b) := by
  unfold spigotref40_Same.f
  by_cases h : a.length = b.length
  · rw [if_pos (by omega)]
    have e := same40_loop a b hn h a.length 0 k (by omega) hk
    rw [List.drop_zero, List.drop_zero] at e
    exact e
  · rw [if_neg (by omega)]
    exact ⟨false, rfl, ⟨fun e => (by cases e), fun e => absurd (by rw [e]) h⟩⟩
/-! #### parts of allowed charges are allowed -/
theorem cO_sub {c c' : List S62} (hc : cO c) (h : List.Sublist c' c) : cO c' := by
  obtain ⟨h1, h2, h3⟩ := hc
  have hp : c.Pairwise (fun x y => x.f0 ≤ y.f0) := by
    rw [List.pairwise_iff_getElem]
    intro i j hi hj hij
    have := h3 i j (by omega) hj
    rw [rdC_at hi, rdC_at hj] at this
    exact this
  have hp' := hp.sublist h
  rw [List.pairwise_iff_getElem] at hp'
  refine ⟨Nat.le_trans h.length_le h1, fun x hx => h2 x (h.subset hx), fun a b hab hb => ?_⟩
  rw [rdC_at hb, rdC_at (by omega : a < c'.length)]
  by_cases e : a = b
  · subst e; exact Int.le_refl _
  · exact hp' a b (by omega) hb (by omega)
theorem Below_ok {l : List S49} {c : List S62} (hl : cC l) (hc : cO c) (hu : ∀ x ∈ c, U64 x.f0) (k : Nat) (hk : 4500 ≤ k) : curve_Below.f k l c = some (conf l c.reverse, 0) := by
  unfold curve_Below.f
  rw [(first_ok hl hc hu k hk).1]
  have h := first_conf l c
  cases g : fO l c c.length 0 with
  | none =>
    rw [g] at h
    rw [h.1 rfl]
    rfl
  | some q =>
    rw [g] at h
    have : conf l c.reverse = false := by
      cases e : conf l c.reverse with
      | true => exact absurd (h.2 e) (by simp)
      | false => rfl
    rw [this]
    obtain ⟨i, j⟩ := q
    rfl
set_option maxRecDepth 100000 in
theorem alive40_ : spigotlaw40_alive.f 100 = some true := by kernel_rfl
theorem alive40 (k : Nat) (hk : 100 ≤ k) : spigotlaw40_alive.f k = some true := up_ (fun k => spigotlaw40_alive.mono k) alive40_ k hk
theorem CurveBelow_pure (l : List S49) (c : List S62) (_ : l.length ≤ maxLen) (_ : ∀ x ∈ l, I64 x.f0 ∧ I64 x.f1 ∧ I64 x.f2) (_ : c.length ≤ maxLen) (hg : ∀ x ∈ c, U64 x.f0 ∧ I64 x.f1) :
    ∃ k, spigotlaw40_CurveBelow.f k l c = some true := by
  refine ⟨5001, ?_⟩
  have hu : ∀ x ∈ c, U64 x.f0 := fun x hx => (hg x hx).1
  have out : spigotlaw40_CurveBelow.j0 5001 l c true true = some true := by
    simp only [spigotlaw40_CurveBelow.j0]
    rfl
  have gr : ∃ b, spigotref40_Great.f l c = some b ∧ (b = true ∨ c.length ≤ 100) := by
    unfold spigotref40_Great.f
    split
    · exact ⟨true, rfl, .inl rfl⟩
    · split
      · split
        · exact ⟨true, rfl, .inl rfl⟩
        · refine ⟨_, rfl, ?_⟩
          rw [decide_eq_true_iff]
          omega
      · refine ⟨_, rfl, ?_⟩
        rw [decide_eq_true_iff]
        omega
  obtain ⟨b, eb, hb⟩ := gr
  unfold spigotlaw40_CurveBelow.f
  rw [alive40 5001 (by omega), eb]
  simp only [Option.bind_some]
  by_cases b1 : b = true
  · rw [if_pos b1]
    exact out
  · rw [if_neg b1]
    have hcn : c.length ≤ 100 := by
      rcases hb with h | h
      · exact absurd h b1
      · exact h
    by_cases hl : cC l
    · rw [(cCheck_ok hl 5001 (by omega)).2]
      simp only [Option.bind_some, ↓reduceIte]
      obtain ⟨x, hx, h0, _⟩ := Charges_eq c (by omega)
      rw [(hx 5001 (by omega)).2]
      simp only [Option.bind_some]
      by_cases hc : cO c
      · have z := h0.2 hc
        subst z
        rw [if_pos rfl]
        have h60 := hc.1
        have hs := adm_sub l c []
        rw [List.reverse_nil, List.nil_append] at hs
        have hc' := cO_sub hc hs
        have hu' : ∀ x ∈ (adm l [] c).reverse, U64 x.f0 := fun x hx => hu x (hs.subset hx)
        have hlen := hs.length_le
        obtain ⟨x', hx', h0', _⟩ := Charges_eq (adm l [] c).reverse (by omega)
        have k1 := (hx' 5000 (by omega)).2
        rw [h0'.2 hc'] at k1
        have cf : conf l (adm l [] c) = true := adm_conf l c [] rfl
        have self : adm l [] (adm l [] c).reverse = adm l [] c := by
          have := adm_self l (adm l [] c).reverse [] (by rw [List.reverse_reverse, List.append_nil]; exact cf)
          rw [List.reverse_reverse, List.append_nil] at this
          exact this
        have p1 := Pass_ok hl hc hu 5000 (by omega)
        have p2 := Pass_ok hl hc' hu' 5000 (by omega)
        rw [self] at p2
        have q1 := Below_ok hl hc' hu' 5000 (by omega)
        rw [List.reverse_reverse, cf] at q1
        have q2 := Below_ok hl hc hu 5000 (by omega)
        obtain ⟨e1, s1, h1⟩ := same40 (adm l [] c).reverse (adm l [] c).reverse (by omega) 5000 (by omega)
        obtain ⟨e2, s2, h2⟩ := same40 (adm l [] c).reverse c (by omega) 5000 (by omega)
        rw [h1.2 rfl] at s1
        have key : (conf l c.reverse == e2) = true := by
          rw [beq_iff_eq]
          by_cases e : (adm l [] c).reverse = c
          · rw [h2.2 e]
            have := congrArg List.reverse e
            rw [List.reverse_reverse] at this
            rw [← this]
            exact cf
          · have e0 : e2 = false := Bool.eq_false_iff.2 fun g => e (h2.1 g)
            rw [e0]
            cases g : conf l c.reverse with
            | false => rfl
            | true =>
              have := adm_self l c [] (by rw [List.append_nil]; exact g)
              rw [List.append_nil] at this
              exact absurd (by rw [this, List.reverse_reverse]) e
        simp only [spigotlaw40_CurveBelow.j0, Bool.not_true]
        rw [if_neg (by decide), p1]
        simp only [Option.bind_some, ↓reduceIte]
        rw [k1]
        simp only [Option.bind_some, ↓reduceIte]
        rw [if_neg (by omega), q1, p2, q2]
        simp only [Option.bind_some, ↓reduceIte]
        rw [s1]
        simp only [Option.bind_some, ↓reduceIte]
        rw [s2]
        simp only [Option.bind_some, ↓reduceIte]
        rw [key]
      · rw [if_neg (fun h => hc (h0.1 h))]
        exact out
    · obtain ⟨y, y0, _, h⟩ := cCheck_bad hl
      rw [(h 5001 (by omega)).2]
      simp only [Option.bind_some]
      rw [if_neg y0]
      exact out
end Go.Proofs.Ytimhghmfhfggoaa.X
