/- TopBuckets, and what it needs. -/
import Derived.Test.YtiifhbaabnpkeaaX0
import Derived.Test.YtiifhbaabnpkeaaX2
import Derived.Test.YtiifhbaabnpkeaaX3
import Derived.Test.YtiifhbaabnpkeaaX4
import Derived.Test.YtiifhbaabnpkeaaX5
import Derived.Test.YtiifhbaabnpkeaaX6
import Derived.Test.YtiifhbaabnpkeaaX7
import Derived.Test.YtiifhbaabnpkeaaX8
import Derived.Test.YtiifhbaabnpkeaaX9
import Derived.Test.YtiifhbaabnpkeaaX10
import Derived.Test.YtiifhbaabnpkeaaX11
import Derived.Test.YtiifhbaabnpkeaaX12
import Derived.Test.YtiifhbaabnpkeaaX13
import Derived.Test.YtiifhbaabnpkeaaX14
import Derived.Test.YtiifhbaabnpkeaaX15
import Derived.Test.YtiifhbaabnpkeaaX16
import Derived.Test.YtiifhbaabnpkeaaX17
import Derived.Test.YtiifhbaabnpkeaaX18
import Derived.Test.YtiifhbaabnpkeaaX19
import Derived.Test.YtiifhbaabnpkeaaX20
import Derived.Test.YtiifhbaabnpkeaaX21
import Derived.Test.YtiifhbaabnpkeaaX22
import Derived.Test.YtiifhbaabnpkeaaX23
import Derived.Test.YtiifhbaabnpkeaaX24
import Derived.Test.YtiifhbaabnpkeaaX25
import Derived.Test.YtiifhbaabnpkeaaX26
import Derived.Test.YtiifhbaabnpkeaaX27
import Derived.Test.YtiifhbaabnpkeaaX28
import Derived.Test.YtiifhbaabnpkeaaMath
namespace Go.Proofs.Ytiifhbaabnpkeaa.X
open Go.RowKit Go.Proofs.YtiifhbaabnpkeaaW.PrintWords Go.Proofs.YtiifhbaabnpkeaaW.PrintLast Go.Proofs.YtiifhbaabnpkeaaW.PrintMore
set_option linter.unusedVariables false
set_option linter.unusedSimpArgs false

theorem wj {j : Nat} (h : j < 9223372036854775807) : wrap64 ((j : Int) + 1) = ((j + 1 : Nat) : Int) := by unfold wrap64; omega
theorem rd_at {l : List Int} {j : Nat} (h : j < l.length) : rd l (j : Int) = l[j] := by
  unfold rd
  rw [List.getD_eq_getElem?_getD, Int.toNat_natCast, List.getElem?_eq_getElem h]
  rfl
/-- What is written at place j, when what stands ahead of j has been written. -/
theorem set_walk {α : Type} (f : α → α) (l : List α) {j : Nat} (h : j < l.length) : ((l.map f).take j ++ l.drop j).set j (f l[j]) = (l.map f).take (j + 1) ++ l.drop (j + 1) := by
  have h1 : ((l.map f).take j).length = j := by rw [List.length_take, List.length_map]; omega
  rw [List.set_append_right _ _ (by omega), h1, Nat.sub_self, List.drop_eq_getElem_cons h, List.set_cons_zero]
  have h2 : (l.map f).take (j + 1) = (l.map f).take j ++ [f l[j]] := by
    rw [List.take_add_one, List.getElem?_eq_getElem (by rw [List.length_map]; exact h), List.getElem_map]
    rfl
  rw [h2, List.append_assoc]
  rfl
theorem walk_get {α : Type} (f : α → α) (l : List α) {j : Nat} (h : j < l.length) (h' : j < ((l.map f).take j ++ l.drop j).length) : ((l.map f).take j ++ l.drop j)[j] = l[j] := by
  have h1 : ((l.map f).take j).length = j := by rw [List.length_take, List.length_map]; omega
  rw [List.getElem_append_right (by omega)]
  simp [h1]
theorem walk_len {α : Type} (f : α → α) (l : List α) (j : Nat) (h : j ≤ l.length) : ((l.map f).take j ++ l.drop j).length = l.length := by
  rw [List.length_append, List.length_take, List.length_map, List.length_drop]
  omega
/-- From the table: how many bits a byte needs. -/
theorem tab_byte (b : Nat) (hb : b < 256) (h0 : 0 < b) : ∃ t : Nat, 1 ≤ t ∧ t ≤ 8 ∧ 2 ^ (t - 1) ≤ b ∧ b < 2 ^ t ∧ bt (⟨#[0, 1, 2, 2, 3, 3, 3, 3, 4, 4, 4, 4, 4, 4, 4, 4, 5, 5, 5, 5, 5, 5, 5, 5, 5, 5, 5, 5, 5, 5, 5, 5, 6, 6, 6, 6, 6, 6, 6, 6, 6, 6, 6, 6, 6, 6, 6, 6, 6, 6, 6, 6, 6, 6, 6, 6, 6, 6, 6, 6, 6, 6, 6, 6, 7, 7, 7, 7, 7, 7, 7, 7, 7, 7, 7, 7, 7, 7, 7, 7, 7, 7, 7, 7, 7, 7, 7, 7, 7, 7, 7, 7, 7, 7, 7, 7, 7, 7, 7, 7, 7, 7, 7, 7, 7, 7, 7, 7, 7, 7, 7, 7, 7, 7, 7, 7, 7, 7, 7, 7, 7, 7, 7, 7, 7, 7, 7, 7, 8, 8, 8, 8, 8, 8, 8, 8, 8, 8, 8, 8, 8, 8, 8, 8, 8, 8, 8, 8, 8, 8, 8, 8, 8, 8, 8, 8, 8, 8, 8, 8, 8, 8, 8, 8, 8, 8, 8, 8, 8, 8, 8, 8, 8, 8, 8, 8, 8, 8, 8, 8, 8, 8, 8, 8, 8, 8, 8, 8, 8, 8, 8, 8, 8, 8, 8, 8, 8, 8, 8, 8, 8, 8, 8, 8, 8, 8, 8, 8, 8, 8, 8, 8, 8, 8, 8, 8, 8, 8, 8, 8, 8, 8, 8, 8, 8, 8, 8, 8, 8, 8, 8, 8, 8, 8, 8, 8, 8, 8, 8, 8, 8, 8, 8, 8, 8, 8, 8, 8, 8, 8, 8, 8, 8, 8, 8, 8]⟩ : ByteArray) (b : Int) = (t : Int) := by
  have h : ∀ b : Fin 256, 0 < b.val → ∃ t : Fin 9, 1 ≤ t.val ∧ 2 ^ (t.val - 1) ≤ b.val ∧ b.val < 2 ^ t.val ∧ bt (⟨#[0, 1, 2, 2, 3, 3, 3, 3, 4, 4, 4, 4, 4, 4, 4, 4, 5, 5, 5, 5, 5, 5, 5, 5, 5, 5, 5, 5, 5, 5, 5, 5, 6, 6, 6, 6, 6, 6, 6, 6, 6, 6, 6, 6, 6, 6, 6, 6, 6, 6, 6, 6, 6, 6, 6, 6, 6, 6, 6, 6, 6, 6, 6, 6, 7, 7, 7, 7, 7, 7, 7, 7, 7, 7, 7, 7, 7, 7, 7, 7, 7, 7, 7, 7, 7, 7, 7, 7, 7, 7, 7, 7, 7, 7, 7, 7, 7, 7, 7, 7, 7, 7, 7, 7, 7, 7, 7, 7, 7, 7, 7, 7, 7, 7, 7, 7, 7, 7, 7, 7, 7, 7, 7, 7, 7, 7, 7, 7, 8, 8, 8, 8, 8, 8, 8, 8, 8, 8, 8, 8, 8, 8, 8, 8, 8, 8, 8, 8, 8, 8, 8, 8, 8, 8, 8, 8, 8, 8, 8, 8, 8, 8, 8, 8, 8, 8, 8, 8, 8, 8, 8, 8, 8, 8, 8, 8, 8, 8, 8, 8, 8, 8, 8, 8, 8, 8, 8, 8, 8, 8, 8, 8, 8, 8, 8, 8, 8, 8, 8, 8, 8, 8, 8, 8, 8, 8, 8, 8, 8, 8, 8, 8, 8, 8, 8, 8, 8, 8, 8, 8, 8, 8, 8, 8, 8, 8, 8, 8, 8, 8, 8, 8, 8, 8, 8, 8, 8, 8, 8, 8, 8, 8, 8, 8, 8, 8, 8, 8, 8, 8, 8, 8, 8, 8, 8, 8]⟩ : ByteArray) (b.val : Int) = (t.val : Int) := by decide +kernel
  obtain ⟨t, h1, h2, h3, h4⟩ := h ⟨b, hb⟩ h0
  exact ⟨t.val, h1, by omega, h2, h3, h4⟩
/-- How many bits a number needs, behind a shift by m. -/
theorem bits_shift {x b : Int} {t m : Nat} (hb : b = x / 2 ^ m) (h1 : 1 ≤ t) (h2 : (2 : Int) ^ (t - 1) ≤ b) (h3 : b < 2 ^ t) : (2 : Int) ^ (t + m - 1) ≤ x ∧ x < 2 ^ (t + m) := by
  subst hb
  obtain ⟨d1, d2⟩ := div_bd (n := x) (two_pow_pos m)
  have e1 := two_pow_split (t - 1) m (t + m - 1) (by omega)
  have e2 := two_pow_split t m (t + m) rfl
  have k1 := Int.mul_le_mul_of_nonneg_right h2 (Int.le_of_lt (two_pow_pos m))
  have k2 : x / 2 ^ m * 2 ^ m + 2 ^ m ≤ 2 ^ t * 2 ^ m := by
    have : (x / 2 ^ m + 1) * 2 ^ m ≤ 2 ^ t * 2 ^ m := Int.mul_le_mul_of_nonneg_right (by omega) (Int.le_of_lt (two_pow_pos m))
    rw [Int.add_mul, Int.one_mul] at this
    exact this
  omega
set_option maxRecDepth 100000 in
theorem Len64_j0 (k : Nat) (x o : Int) (m : Nat) (ho : o = m) (hm : m ≤ 32) (h0 : 0 < x) (h1 : x < 4294967296) :
    ∃ t : Nat, 1 ≤ t ∧ t ≤ 32 ∧ bits_Len64.j0 (k + 1) x o = some ((t + m : Nat) : Int) ∧ (2 : Int) ^ (t - 1) ≤ x ∧ x < 2 ^ t := by
  rw [bits_Len64.j0]
  have key : ∀ (b : Int) (s : Nat), b = x / 2 ^ s → 0 < b → b < 256 → s ≤ 24 → ∃ t : Nat, 1 ≤ t ∧ t ≤ 8 ∧ bt (⟨#[0, 1, 2, 2, 3, 3, 3, 3, 4, 4, 4, 4, 4, 4, 4, 4, 5, 5, 5, 5, 5, 5, 5, 5, 5, 5, 5, 5, 5, 5, 5, 5, 6, 6, 6, 6, 6, 6, 6, 6, 6, 6, 6, 6, 6, 6, 6, 6, 6, 6, 6, 6, 6, 6, 6, 6, 6, 6, 6, 6, 6, 6, 6, 6, 7, 7, 7, 7, 7, 7, 7, 7, 7, 7, 7, 7, 7, 7, 7, 7, 7, 7, 7, 7, 7, 7, 7, 7, 7, 7, 7, 7, 7, 7, 7, 7, 7, 7, 7, 7, 7, 7, 7, 7, 7, 7, 7, 7, 7, 7, 7, 7, 7, 7, 7, 7, 7, 7, 7, 7, 7, 7, 7, 7, 7, 7, 7, 7, 8, 8, 8, 8, 8, 8, 8, 8, 8, 8, 8, 8, 8, 8, 8, 8, 8, 8, 8, 8, 8, 8, 8, 8, 8, 8, 8, 8, 8, 8, 8, 8, 8, 8, 8, 8, 8, 8, 8, 8, 8, 8, 8, 8, 8, 8, 8, 8, 8, 8, 8, 8, 8, 8, 8, 8, 8, 8, 8, 8, 8, 8, 8, 8, 8, 8, 8, 8, 8, 8, 8, 8, 8, 8, 8, 8, 8, 8, 8, 8, 8, 8, 8, 8, 8, 8, 8, 8, 8, 8, 8, 8, 8, 8, 8, 8, 8, 8, 8, 8, 8, 8, 8, 8, 8, 8, 8, 8, 8, 8, 8, 8, 8, 8, 8, 8, 8, 8, 8, 8, 8, 8, 8, 8, 8, 8, 8, 8]⟩ : ByteArray) b = (t : Int) ∧ (2 : Int) ^ (t + s - 1) ≤ x ∧ x < 2 ^ (t + s) := by
    intro b s hb b0 b1 hs
    obtain ⟨c, rfl⟩ := Int.eq_ofNat_of_zero_le (Int.le_of_lt b0)
    obtain ⟨t, t1, t2, t3, t4, t5⟩ := tab_byte c (by omega) (by omega)
    obtain ⟨e1, e2⟩ := bits_shift (x := x) (b := c) (t := t) (m := s) hb t1 (by exact_mod_cast t3) (by exact_mod_cast t4)
    exact ⟨t, t1, t2, t5, e1, e2⟩
  by_cases c1 : x ≥ 65536
  · rw [if_pos c1]
    by_cases c2 : x / 65536 ≥ 256
    · rw [if_pos c2, if_pos (by omega), if_pos (by omega)]
      obtain ⟨t, t1, t2, t3, t4, t5⟩ := key (x / 65536 / 256 % 256) 24 (by rw [Int.emod_eq_of_lt (by omega) (by omega), show ((2 : Int) ^ 24) = 16777216 from rfl]; omega) (by omega) (by omega) (by omega)
      refine ⟨t + 24, by omega, by omega, ?_, t4, t5⟩
      rw [t3, ho, wrap64_id (x := (m : Int) + 16) (by omega) (by omega), wrap64_id (x := (m : Int) + 16 + 8) (by omega) (by omega), wrap64_id (x := (t : Int)) (by omega) (by omega), wrap64_id (by omega) (by omega)]
      congr 1
      omega
    · rw [if_neg c2, if_pos (by omega), if_pos (by omega)]
      obtain ⟨t, t1, t2, t3, t4, t5⟩ := key (x / 65536 % 256) 16 (by rw [Int.emod_eq_of_lt (by omega) (by omega), show ((2 : Int) ^ 16) = 65536 from rfl]) (by omega) (by omega) (by omega)
      refine ⟨t + 16, by omega, by omega, ?_, t4, t5⟩
      rw [t3, ho, wrap64_id (x := (m : Int) + 16) (by omega) (by omega), wrap64_id (x := (t : Int)) (by omega) (by omega), wrap64_id (by omega) (by omega)]
      congr 1
      omega
  · rw [if_neg c1]
    by_cases c2 : x ≥ 256
    · rw [if_pos c2, if_pos (by omega), if_pos (by omega)]
      obtain ⟨t, t1, t2, t3, t4, t5⟩ := key (x / 256 % 256) 8 (by rw [Int.emod_eq_of_lt (by omega) (by omega), show ((2 : Int) ^ 8) = 256 from rfl]) (by omega) (by omega) (by omega)
      refine ⟨t + 8, by omega, by omega, ?_, t4, t5⟩
      rw [t3, ho, wrap64_id (x := (m : Int) + 8) (by omega) (by omega), wrap64_id (x := (t : Int)) (by omega) (by omega), wrap64_id (by omega) (by omega)]
      congr 1
      omega
    · rw [if_neg c2, if_pos (by omega), if_pos (by omega)]
      obtain ⟨t, t1, t2, t3, t4, t5⟩ := key (x % 256) 0 (by rw [Int.emod_eq_of_lt (by omega) (by omega)]; simp) (by omega) (by omega) (by omega)
      refine ⟨t, by omega, by omega, ?_, t4, t5⟩
      rw [t3, ho, wrap64_id (x := (t : Int)) (by omega) (by omega), wrap64_id (by omega) (by omega)]
      congr 1
      omega
theorem Len64_ok (k : Nat) (x : Int) (h0 : 0 < x) (h1 : x < 18446744073709551616) :
    ∃ t : Nat, 1 ≤ t ∧ t ≤ 64 ∧ bits_Len64.f (k + 1) x = some (t : Int) ∧ (2 : Int) ^ (t - 1) ≤ x ∧ x < 2 ^ t := by
  unfold bits_Len64.f
  by_cases c : x ≥ 4294967296
  · rw [if_pos c]
    obtain ⟨t, t1, t2, t3, t4, t5⟩ := Len64_j0 k (x / 4294967296) 32 32 rfl (by omega) (by omega) (by omega)
    obtain ⟨e1, e2⟩ := bits_shift (x := x) (b := x / 4294967296) (t := t) (m := 32) (by rw [show ((2 : Int) ^ 32) = 4294967296 from rfl]) t1 t4 t5
    exact ⟨t + 32, by omega, by omega, t3, e1, e2⟩
  · rw [if_neg c]
    obtain ⟨t, t1, t2, t3, t4, t5⟩ := Len64_j0 k x 0 0 rfl (by omega) h0 (by omega)
    exact ⟨t, by omega, by omega, t3, t4, t5⟩
theorem LeadingZeros64_ok (k : Nat) (x : Int) (h0 : 0 < x) (h1 : x < 18446744073709551616) :
    ∃ s : Nat, s ≤ 63 ∧ bits_LeadingZeros64.f (k + 1) x = some (s : Int) ∧ (9223372036854775808 : Int) ≤ x * 2 ^ s ∧ x * 2 ^ s < 18446744073709551616 := by
  obtain ⟨t, t1, t2, t3, t4, t5⟩ := Len64_ok k x h0 h1
  refine ⟨64 - t, by omega, ?_, ?_, ?_⟩
  · unfold bits_LeadingZeros64.f
    rw [t3]
    simp only [Option.bind_some]
    rw [wrap64_id (by omega) (by omega)]
    congr 1
    omega
  · have e := two_pow_split (t - 1) (64 - t) 63 (by omega)
    have k1 := Int.mul_le_mul_of_nonneg_right t4 (Int.le_of_lt (two_pow_pos (64 - t)))
    rw [e] at k1
    exact k1
  · have e := two_pow_split t (64 - t) 64 (by omega)
    have k1 := Int.mul_lt_mul_of_pos_right t5 (two_pow_pos (64 - t))
    rw [e] at k1
    exact k1

/-! #### the loops of Div64: a guessed digit is lowered until it is the digit -/
section
variable {y yn1 yn0 u v q r : Int}
theorem kn_eq (hy : y = yn1 * 4294967296 + yn0) : q * y = q * yn1 * 4294967296 + q * yn0 := by rw [hy, Int.mul_add, Int.mul_assoc]
theorem kn_dec (hy : y = yn1 * 4294967296 + yn0) (hu0 : 0 ≤ u) (hu : u < y) (hv0 : 0 ≤ v) (hv : v < 4294967296) (hq : u = q * yn1 + r) (hq0 : 0 ≤ q) (hc : q ≥ 4294967296 ∨ q * yn0 > 4294967296 * r + v) : u * 4294967296 + v < q * y ∧ 1 ≤ q := by
  have e := kn_eq (q := q) hy
  have h : u * 4294967296 + v < q * y := by
    rcases hc with h | h
    · have := Int.mul_le_mul_of_nonneg_right h (by omega : 0 ≤ y)
      omega
    · omega
  refine ⟨h, ?_⟩
  rcases Int.lt_or_le 0 q with h' | h'
  · omega
  · have : q = 0 := by omega
    subst this
    rw [Int.zero_mul] at h
    omega
theorem kn_low (hy : y = yn1 * 4294967296 + yn0) (hu : u < y) (hu0 : 0 ≤ u) (hv : v < 4294967296) (hq : q * y ≤ u * 4294967296 + v) : q < 4294967296 := by
  rcases Int.lt_or_le q 4294967296 with h | h
  · exact h
  · have := Int.mul_le_mul_of_nonneg_right h (by omega : 0 ≤ y)
    omega
theorem kn_brk (hy : y = yn1 * 4294967296 + yn0) (h2 : 0 ≤ yn0) (h2' : yn0 < 4294967296) (hv0 : 0 ≤ v) (hq : u = q * yn1 + r) (hq0 : 0 ≤ q) (hq1 : q ≤ 4294967296) (hr : 4294967296 ≤ r) : q * y ≤ u * 4294967296 + v := by
  have e := kn_eq (q := q) hy
  have h := (mul_bd hq0 hq1 h2 (by omega : yn0 ≤ 4294967295)).2
  omega
end

theorem Div64_l0 (y s yn1 yn0 u v un0 : Int) (hy : y = yn1 * 4294967296 + yn0) (h1 : 2147483648 ≤ yn1) (h1' : yn1 < 4294967296) (h2 : 0 ≤ yn0) (h2' : yn0 < 4294967296) (hu0 : 0 ≤ u) (hu : u < y) (hv0 : 0 ≤ v) (hv : v < 4294967296) :
    ∀ (d k : Nat) (q r : Int), 2 * d + 2 ≤ k → 4294967296 ≤ r + d * 2147483648 → 0 ≤ r → r < 4294967296 → u = q * yn1 + r → 0 ≤ q → q ≤ 4294967297 → u * 4294967296 + v < q * y + y →
    ∃ k' q', k ≤ k' + (2 * d + 2) ∧ bits_Div64.l0 k y s yn1 yn0 u v un0 q r = bits_Div64.j2 k' y s yn1 yn0 u v un0 q' ∧ 0 ≤ q' ∧ q' < 4294967296 ∧ q' * y ≤ u * 4294967296 + v ∧ u * 4294967296 + v < q' * y + y := by
  intro d
  induction d with
  | zero => intro k q r _ h; intros; omega
  | succ d ih =>
    intro k q r hk hd hr0 hr hq hq0 hq1 hlt
    obtain ⟨k, rfl⟩ : ∃ m, k = m + 2 := ⟨k - 2, by omega⟩
    have dec : q ≥ 4294967296 ∨ q * yn0 > 4294967296 * r + v → ∃ k' q', k + 2 ≤ k' + (2 * (d + 1) + 2) ∧ bits_Div64.j1 (k + 1) y s yn1 yn0 u v un0 q r true = bits_Div64.j2 k' y s yn1 yn0 u v un0 q' ∧ 0 ≤ q' ∧ q' < 4294967296 ∧ q' * y ≤ u * 4294967296 + v ∧ u * 4294967296 + v < q' * y + y := by
      intro hc
      obtain ⟨g1, g2⟩ := kn_dec hy hu0 hu hv0 hv hq hq0 hc
      have e1 : (q - 1) * y = q * y - y := by rw [Int.sub_mul, Int.one_mul]
      have e2 : (q - 1) * yn1 = q * yn1 - yn1 := by rw [Int.sub_mul, Int.one_mul]
      simp only [bits_Div64.j1, ↓reduceIte]
      rw [wrap_id (x := q - 1) ⟨by omega, by omega⟩, wrap_id (x := r + yn1) ⟨by omega, by omega⟩]
      by_cases c : r + yn1 ≥ 4294967296
      · rw [if_pos c]
        have b := kn_brk (q := q - 1) (r := r + yn1) (u := u) (v := v) hy h2 h2' hv0 (by omega) (by omega) (by omega) c
        exact ⟨k, q - 1, by omega, rfl, by omega, kn_low hy hu hu0 hv b, b, by omega⟩
      · rw [if_neg c]
        obtain ⟨k', q', a1, a2, a3⟩ := ih k (q - 1) (r + yn1) (by omega) (by omega) (by omega) (by omega) (by omega) (by omega) (by omega) (by omega)
        exact ⟨k', q', by omega, a2, a3⟩
    simp only [bits_Div64.l0]
    by_cases c1 : q ≥ 4294967296
    · rw [if_pos c1]
      exact dec (.inl c1)
    · rw [if_neg c1]
      have b1 := mul_bd hq0 (by omega : q ≤ 4294967295) h2 (by omega : yn0 ≤ 4294967295)
      rw [wrap_id (x := q * yn0) ⟨by omega, by omega⟩, wrap_id (x := 4294967296 * r) ⟨by omega, by omega⟩, wrap_id (x := 4294967296 * r + v) ⟨by omega, by omega⟩]
      by_cases c2 : q * yn0 > 4294967296 * r + v
      · rw [decide_eq_true c2]
        exact dec (.inr c2)
      · rw [decide_eq_false c2]
        simp only [bits_Div64.j1, Bool.false_eq_true, ↓reduceIte]
        have e := kn_eq (q := q) hy
        exact ⟨k, q, by omega, rfl, hq0, by omega, by omega, hlt⟩
theorem Div64_l1 (y s yn1 yn0 u v q1 : Int) (hy : y = yn1 * 4294967296 + yn0) (h1 : 2147483648 ≤ yn1) (h1' : yn1 < 4294967296) (h2 : 0 ≤ yn0) (h2' : yn0 < 4294967296) (hu0 : 0 ≤ u) (hu : u < y) (hv0 : 0 ≤ v) (hv : v < 4294967296) (hs : 0 ≤ s) :
    ∀ (d k : Nat) (q r : Int), 2 * d + 2 ≤ k → 4294967296 ≤ r + d * 2147483648 → 0 ≤ r → r < 4294967296 → u = q * yn1 + r → 0 ≤ q → q ≤ 4294967297 → u * 4294967296 + v < q * y + y →
    ∃ q', bits_Div64.l1 k y s yn1 yn0 v q1 r u q = some (IntKind.u64.wrap (IntKind.u64.wrap (q1 * 4294967296) + q'), shr .u64 (IntKind.u64.wrap (IntKind.u64.wrap (IntKind.u64.wrap (u * 4294967296) + v) - IntKind.u64.wrap (q' * y))) s) ∧ 0 ≤ q' ∧ q' < 4294967296 ∧ q' * y ≤ u * 4294967296 + v ∧ u * 4294967296 + v < q' * y + y := by
  intro d
  induction d with
  | zero => intro k q r _ h; intros; omega
  | succ d ih =>
    intro k q r hk hd hr0 hr hq hq0 hq1 hlt
    obtain ⟨k, rfl⟩ : ∃ m, k = m + 2 := ⟨k - 2, by omega⟩
    have dec : q ≥ 4294967296 ∨ q * yn0 > 4294967296 * r + v → ∃ q', bits_Div64.j4 (k + 1) y s yn1 yn0 v q1 r u q true = some (IntKind.u64.wrap (IntKind.u64.wrap (q1 * 4294967296) + q'), shr .u64 (IntKind.u64.wrap (IntKind.u64.wrap (IntKind.u64.wrap (u * 4294967296) + v) - IntKind.u64.wrap (q' * y))) s) ∧ 0 ≤ q' ∧ q' < 4294967296 ∧ q' * y ≤ u * 4294967296 + v ∧ u * 4294967296 + v < q' * y + y := by
      intro hc
      obtain ⟨g1, g2⟩ := kn_dec hy hu0 hu hv0 hv hq hq0 hc
      have e1 : (q - 1) * y = q * y - y := by rw [Int.sub_mul, Int.one_mul]
      have e2 : (q - 1) * yn1 = q * yn1 - yn1 := by rw [Int.sub_mul, Int.one_mul]
      simp only [bits_Div64.j4, ↓reduceIte]
      rw [wrap_id (x := q - 1) ⟨by omega, by omega⟩, wrap_id (x := r + yn1) ⟨by omega, by omega⟩]
      by_cases c : r + yn1 ≥ 4294967296
      · rw [if_pos c, if_pos hs]
        have b := kn_brk (q := q - 1) (r := r + yn1) (u := u) (v := v) hy h2 h2' hv0 (by omega) (by omega) (by omega) c
        exact ⟨q - 1, rfl, by omega, kn_low hy hu hu0 hv b, b, by omega⟩
      · rw [if_neg c]
        exact ih k (q - 1) (r + yn1) (by omega) (by omega) (by omega) (by omega) (by omega) (by omega) (by omega) (by omega)
    simp only [bits_Div64.l1]
    by_cases c1 : q ≥ 4294967296
    · rw [if_pos c1]
      exact dec (.inl c1)
    · rw [if_neg c1]
      have b1 := mul_bd hq0 (by omega : q ≤ 4294967295) h2 (by omega : yn0 ≤ 4294967295)
      rw [wrap_id (x := q * yn0) ⟨by omega, by omega⟩, wrap_id (x := 4294967296 * r) ⟨by omega, by omega⟩, wrap_id (x := 4294967296 * r + v) ⟨by omega, by omega⟩]
      by_cases c2 : q * yn0 > 4294967296 * r + v
      · rw [decide_eq_true c2]
        exact dec (.inr c2)
      · rw [decide_eq_false c2]
        simp only [bits_Div64.j4, Bool.false_eq_true, ↓reduceIte]
        rw [if_pos hs]
        have e := kn_eq (q := q) hy
        exact ⟨q, rfl, hq0, by omega, by omega, hlt⟩
/-- bits.Div64, where the quotient fits: the quotient and the rest. -/
theorem Div64_ok (k : Nat) (hk : 20 ≤ k) (hi lo y : Int) (h0 : 0 ≤ hi) (hl : U64 lo) (hy : y < 18446744073709551616) (hlt : hi < y) :
    bits_Div64.f k hi lo y = some ((hi * 18446744073709551616 + lo) / y, (hi * 18446744073709551616 + lo) % y) := by
  obtain ⟨hl0, hl1⟩ := hl
  unfold bits_Div64.f
  rw [if_neg (by omega), if_neg (by omega)]
  by_cases c0 : hi = 0
  · subst c0
    rw [if_pos rfl, tdiv_nonneg_eq hl0, tmod_nonneg_eq hl0, wrap_id ⟨div_nonneg hl0 (by omega), ?_⟩]
    · simp
    · have := div_le hl0 (by omega : 0 < y)
      omega
  · rw [if_neg c0]
    obtain ⟨k, rfl⟩ : ∃ m, k = m + 1 := ⟨k - 1, by omega⟩
    obtain ⟨s, s1, s2, s3, s4⟩ := LeadingZeros64_ok k y (by omega) hy
    rw [s2]
    simp only [Option.bind_some]
    have P0 := two_pow_pos s
    have R0 := two_pow_pos (64 - s)
    have PR := two_pow_split s (64 - s) 64 (by omega)
    rw [show ((2 : Int) ^ 64) = 18446744073709551616 from rfl] at PR
    rw [wrap_id (x := (s : Int)) ⟨by omega, by omega⟩, wrap_id (x := 64 - (s : Int)) ⟨by omega, by omega⟩, if_pos (by omega), if_pos (by omega)]
    have es : (min ((s : Int).toNat) IntKind.u64.bits) = s := by simp [IntKind.bits] <;> omega
    have es' : (min ((64 - (s : Int)).toNat) IntKind.u64.bits) = 64 - s := by simp [IntKind.bits] <;> omega
    have eY : shl .u64 y (s : Int) = y * 2 ^ s := by unfold shl; rw [es, wrap_id ⟨by omega, s4⟩]
    have eH0 : hi * 2 ^ s ≤ y * 2 ^ s - 2 ^ s := by
      have := Int.mul_le_mul_of_nonneg_right (by omega : hi + 1 ≤ y) (Int.le_of_lt P0)
      rw [Int.add_mul, Int.one_mul] at this
      omega
    have eH1 : 0 ≤ hi * 2 ^ s := Int.mul_nonneg h0 (Int.le_of_lt P0)
    have eH : shl .u64 hi (s : Int) = hi * 2 ^ s := by unfold shl; rw [es, wrap_id ⟨eH1, by omega⟩]
    have eL : shr .u64 lo (64 - (s : Int)) = lo / 2 ^ (64 - s) := by unfold shr; rw [es']
    have eLl : lo / 2 ^ (64 - s) < 2 ^ s := div_lt R0 (by rw [PR]; exact hl1)
    have eL0 : 0 ≤ lo / 2 ^ (64 - s) := div_nonneg hl0 R0
    have eU : Go.bits .or .u64 (hi * 2 ^ s) (lo / 2 ^ (64 - s)) = hi * 2 ^ s + lo / 2 ^ (64 - s) :=
      bits_join .u64 64 (by decide) (fun n a b => wrap_id ⟨a, b⟩) s _ _ eH1 (Int.mul_emod_left _ _) (by show _ < (18446744073709551616 : Int); omega) eL0 eLl (by show _ < (18446744073709551616 : Int); omega)
    obtain ⟨d1, d2, d3⟩ := div_rest (n := lo) R0
    have eLo : lo * 2 ^ s = lo / 2 ^ (64 - s) * 18446744073709551616 + lo % 2 ^ (64 - s) * 2 ^ s := by
      conv => lhs; rw [← d1, Int.add_mul, Int.mul_assoc, Int.mul_comm (2 ^ (64 - s)), PR]
    have eR1 : lo % 2 ^ (64 - s) * 2 ^ s < 18446744073709551616 := by
      have := Int.mul_lt_mul_of_pos_right d3 P0
      rw [Int.mul_comm (2 ^ (64 - s)), PR] at this
      exact this
    have eR0 : 0 ≤ lo % 2 ^ (64 - s) * 2 ^ s := Int.mul_nonneg d2 (Int.le_of_lt P0)
    have eN : shl .u64 lo (s : Int) = lo % 2 ^ (64 - s) * 2 ^ s := by
      unfold shl
      rw [es, wrap_u64, eLo]
      omega
    have eA : Go.bits .and .u64 (y * 2 ^ s) 4294967295 = y * 2 ^ s % 4294967296 :=
      bits_mask .u64 64 (by decide) (fun n a b => wrap_id ⟨a, b⟩) 32 (by decide) _ (by omega) (by show _ < (18446744073709551616 : Int); omega)
    have eB : Go.bits .and .u64 (lo % 2 ^ (64 - s) * 2 ^ s) 4294967295 = lo % 2 ^ (64 - s) * 2 ^ s % 4294967296 :=
      bits_mask .u64 64 (by decide) (fun n a b => wrap_id ⟨a, b⟩) 32 (by decide) _ eR0 (by show _ < (18446744073709551616 : Int); omega)
    rw [eY, eH, eL, eN, eU, eA, eB]
    have eT : (hi * 18446744073709551616 + lo) * 2 ^ s = (hi * 2 ^ s + lo / 2 ^ (64 - s)) * 18446744073709551616 + lo % 2 ^ (64 - s) * 2 ^ s := by
      rw [Int.add_mul, eLo, Int.add_mul, Int.mul_assoc, Int.mul_comm 18446744073709551616 (2 ^ s), ← Int.mul_assoc]
      omega
    obtain ⟨z1, z2⟩ := div_scale (n := hi * 18446744073709551616 + lo) (y := y) P0 (by omega)
    rw [← z1, eT] at *
    generalize hU : hi * 2 ^ s + lo / 2 ^ (64 - s) = U at *
    generalize hV : lo % 2 ^ (64 - s) * 2 ^ s = V at *
    generalize hY : y * 2 ^ s = Y at *
    have hUY : U < Y := by omega
    have hU0 : 0 ≤ U := by omega
    have y1 : Y = Y / 4294967296 * 4294967296 + Y % 4294967296 := by omega
    rw [if_neg (by omega)]
    have n1 : 0 < Y / 4294967296 := by omega
    obtain ⟨g1, g2, g3⟩ := div_rest (n := U) n1
    have gq : U / (Y / 4294967296) < 4294967298 := div_lt n1 (by omega)
    have gq0 := div_nonneg hU0 n1
    rw [tdiv_nonneg_eq hU0, wrap_id (x := U / (Y / 4294967296)) ⟨gq0, by omega⟩]
    have gp0 : 0 ≤ U / (Y / 4294967296) * (Y / 4294967296) := Int.mul_nonneg gq0 (by omega)
    rw [wrap_id (x := U / (Y / 4294967296) * (Y / 4294967296)) ⟨gp0, by omega⟩, wrap_id (x := U - U / (Y / 4294967296) * (Y / 4294967296)) ⟨by omega, by omega⟩]
    have start : ∀ (u v : Int), 0 ≤ u → u < Y → 0 ≤ v → v < 4294967296 → u * 4294967296 + v < u / (Y / 4294967296) * Y + Y := by
      intro u v hu0 huY hv0 hv
      obtain ⟨f1, f2, f3⟩ := div_rest (n := u) n1
      have e := kn_eq (q := u / (Y / 4294967296)) y1
      have := Int.mul_nonneg (div_nonneg hu0 n1) (by omega : 0 ≤ Y % 4294967296)
      omega
    obtain ⟨k', q1, a1, a2, a3, a4, a5, a6⟩ := Div64_l0 Y s (Y / 4294967296) (Y % 4294967296) U (V / 4294967296) (V % 4294967296) y1 (by omega) (by omega) (by omega) (by omega) hU0 hUY (by omega) (by omega) 2 (k + 1) (U / (Y / 4294967296)) (U - U / (Y / 4294967296) * (Y / 4294967296)) (by omega) (by omega) (by omega) (by omega) (by omega) gq0 (by omega) (start U _ hU0 hUY (by omega) (by omega))
    rw [a2]
    obtain ⟨k', rfl⟩ : ∃ m, k' = m + 1 := ⟨k' - 1, by omega⟩
    simp only [bits_Div64.j2]
    rw [if_neg (by omega)]
    have w1 : IntKind.u64.wrap (IntKind.u64.wrap (IntKind.u64.wrap (U * 4294967296) + V / 4294967296) - IntKind.u64.wrap (q1 * Y)) = U * 4294967296 + V / 4294967296 - q1 * Y := by
      simp only [wrap_u64]
      omega
    rw [w1]
    generalize hu2 : U * 4294967296 + V / 4294967296 - q1 * Y = u2 at *
    obtain ⟨b1, b2, b3⟩ := div_rest (n := u2) n1
    have bq : u2 / (Y / 4294967296) < 4294967298 := div_lt n1 (by omega)
    have bq0 := div_nonneg (by omega : 0 ≤ u2) n1
    rw [tdiv_nonneg_eq (by omega : 0 ≤ u2), wrap_id (x := u2 / (Y / 4294967296)) ⟨bq0, by omega⟩]
    have bp0 : 0 ≤ u2 / (Y / 4294967296) * (Y / 4294967296) := Int.mul_nonneg bq0 (by omega)
    rw [wrap_id (x := u2 / (Y / 4294967296) * (Y / 4294967296)) ⟨bp0, by omega⟩, wrap_id (x := u2 - u2 / (Y / 4294967296) * (Y / 4294967296)) ⟨by omega, by omega⟩]
    obtain ⟨q0, c1, c2, c3, c4, c5⟩ := Div64_l1 Y s (Y / 4294967296) (Y % 4294967296) u2 (V % 4294967296) q1 y1 (by omega) (by omega) (by omega) (by omega) (by omega) (by omega) (by omega) (by omega) (by omega) 2 k' (u2 / (Y / 4294967296)) (u2 - u2 / (Y / 4294967296) * (Y / 4294967296)) (by omega) (by omega) (by omega) (by omega) (by omega) bq0 (by omega) (start u2 _ (by omega) (by omega) (by omega) (by omega))
    rw [c1]
    have eq : (q1 * 4294967296 + q0) * Y = q1 * Y * 4294967296 + q0 * Y := by
      rw [Int.add_mul, Int.mul_assoc, Int.mul_comm 4294967296 Y, ← Int.mul_assoc]
    obtain ⟨r1, r2⟩ := div_uniq (n := U * 18446744073709551616 + V) (y := Y) (q := q1 * 4294967296 + q0) (by omega) (by omega)
    have w2 : IntKind.u64.wrap (IntKind.u64.wrap (IntKind.u64.wrap (u2 * 4294967296) + V % 4294967296) - IntKind.u64.wrap (q0 * Y)) = u2 * 4294967296 + V % 4294967296 - q0 * Y := by
      simp only [wrap_u64]
      omega
    have w3 : IntKind.u64.wrap (IntKind.u64.wrap (q1 * 4294967296) + q0) = q1 * 4294967296 + q0 := by
      simp only [wrap_u64]
      omega
    rw [w2, w3, r1]
    have w4 : u2 * 4294967296 + V % 4294967296 - q0 * Y = (U * 18446744073709551616 + V) % Y := by rw [r2]; omega
    rw [w4, z2]
    unfold shr
    rw [es, Int.mul_ediv_cancel _ (by omega)]
/-- The number that two words stand for. -/
def wv (h l : Int) : Int := h * 18446744073709551616 + l
theorem wv_bd {h l : Int} (hh : U64 h) (hl : U64 l) : 0 ≤ wv h l ∧ wv h l < 340282366920938463463374607431768211456 := by
  obtain ⟨_, _⟩ := hh; obtain ⟨_, _⟩ := hl; unfold wv; omega
theorem wv_of {n : Int} : wv (n / 18446744073709551616) (n % 18446744073709551616) = n := by unfold wv; omega
theorem wv_zero {l : Int} : wv 0 l = l := by unfold wv; omega
theorem U64_hi {n : Int} (h0 : 0 ≤ n) (h1 : n < 340282366920938463463374607431768211456) : U64 (n / 18446744073709551616) := ⟨by omega, by omega⟩
theorem U64_lo {n : Int} : U64 (n % 18446744073709551616) := ⟨by omega, by omega⟩
theorem U64_zero : U64 0 := ⟨by decide, by decide⟩

section
variable {a0 a1 b0 b1 : Int}
theorem wide_Add_ok (h0 : U64 a0) (h1 : U64 a1) (h2 : U64 b0) (h3 : U64 b1) (h : wv a0 a1 + wv b0 b1 < 340282366920938463463374607431768211456) :
    wide_Add.f a0 a1 b0 b1 = some ((wv a0 a1 + wv b0 b1) / 18446744073709551616, (wv a0 a1 + wv b0 b1) % 18446744073709551616, 0) := by
  obtain ⟨_, _⟩ := h0; obtain ⟨_, _⟩ := h1; obtain ⟨_, _⟩ := h2; obtain ⟨_, _⟩ := h3
  unfold wv at *
  unfold wide_Add.f bits_Add64.f
  rw [if_pos ⟨by omega, by omega, by omega, by omega⟩]
  simp only [Option.bind_some]
  rw [if_pos ⟨by omega, by omega, by omega, by omega⟩]
  simp only [Option.bind_some]
  rw [if_pos (by omega)]
  congr 3 <;> omega
theorem wide_Sub_ok (h0 : U64 a0) (h1 : U64 a1) (h2 : U64 b0) (h3 : U64 b1) (h : wv b0 b1 ≤ wv a0 a1) :
    wide_Sub.f a0 a1 b0 b1 = some ((wv a0 a1 - wv b0 b1) / 18446744073709551616, (wv a0 a1 - wv b0 b1) % 18446744073709551616, 0) := by
  obtain ⟨_, _⟩ := h0; obtain ⟨_, _⟩ := h1; obtain ⟨_, _⟩ := h2; obtain ⟨_, _⟩ := h3
  unfold wv at *
  unfold wide_Sub.f bits_Sub64.f
  by_cases c : a1 < b1 + 0
  · rw [if_pos ⟨by omega, by omega, by omega, by omega, by omega⟩, if_pos c]
    simp only [Option.bind_some]
    rw [if_pos ⟨by omega, by omega, by omega, by omega, by omega⟩, if_neg (by omega)]
    simp only [Option.bind_some, ↓reduceIte]
    congr 3 <;> omega
  · rw [if_pos ⟨by omega, by omega, by omega, by omega, by omega⟩, if_neg c]
    simp only [Option.bind_some]
    rw [if_pos ⟨by omega, by omega, by omega, by omega, by omega⟩, if_neg (by omega)]
    simp only [Option.bind_some, ↓reduceIte]
    congr 3 <;> omega
theorem wide_Small_ok (h0 : a0 = 0) : wide_Small.f a0 a1 = some (a1, 0) := by unfold wide_Small.f; rw [if_pos h0]
theorem wide_Small_err (h0 : a0 ≠ 0) : wide_Small.f a0 a1 = some (0, 16) := by unfold wide_Small.f; rw [if_neg h0]
theorem wide_Of_ok : wide_Of.f a0 = some (0, a0) := rfl
/-- The order of two numbers. -/
def wcmp (a b : Int) : Int := if a < b then -1 else if a = b then 0 else 1
theorem wcmp_pos {a b : Int} : wcmp a b > 0 ↔ b < a := by unfold wcmp; split <;> (try split) <;> omega
theorem cmp_Compare_ok (a b : Int) : cmp_Compare_uint64.f a b = some (wcmp a b) := by
  unfold cmp_Compare_uint64.f cmp_isNaN_uint64.f wcmp
  have e : ∀ x : Int, (x != x) = false := fun x => by simp
  simp only [e, Option.bind_some]
  rw [if_neg (by decide), if_neg (by decide)]
  by_cases c : a < b
  · rw [if_pos c, if_pos c]
  · rw [if_neg c, if_neg c]
    by_cases d : a > b
    · rw [if_pos d, if_neg (by omega)]
    · rw [if_neg d, if_pos (by omega)]
theorem w01 : wrap64 (0 + 1) = 1 := by unfold wrap64; omega
theorem w11 : wrap64 (1 + 1) = 2 := by unfold wrap64; omega
theorem cmp_Or_two (k : Nat) (x y : Int) : cmp_Or_int.f (k + 3) [x, y] = some (if x = 0 then y else x) := by
  unfold cmp_Or_int.f
  simp only [cmp_Or_int.l0, List.length_cons, List.length_nil, w01, w11]
  have e0 : rd [x, y] 0 = x := rfl
  have e1 : rd [x, y] 1 = y := rfl
  rw [e0, e1, if_pos (by decide), if_pos (by decide), if_pos (by decide)]
  by_cases c : x = 0
  · rw [if_pos c, if_pos c, if_pos (by decide), if_pos (by decide), if_pos (by decide)]
    by_cases d : y = 0
    · rw [if_pos d, if_neg (by decide), d]
    · rw [if_neg d]
  · rw [if_neg c, if_neg c]
theorem wide_Cmp_ok (k : Nat) (h1 : U64 a1) (h3 : U64 b1) : wide_Cmp.f (k + 3) a0 a1 b0 b1 = some (wcmp (wv a0 a1) (wv b0 b1)) := by
  obtain ⟨_, _⟩ := h1; obtain ⟨_, _⟩ := h3
  unfold wide_Cmp.f
  rw [cmp_Compare_ok, cmp_Compare_ok]
  simp only [Option.bind_some, cmp_Or_two]
  congr 1
  unfold wcmp wv
  split <;> (try split) <;> (try split) <;> (try split) <;> (try split) <;> (try split) <;> omega
end
theorem and_mask {x : Int} (h0 : 0 ≤ x) (h1 : x < 18446744073709551616) : Go.bits .and .u64 x 4294967295 = x % 4294967296 :=
  bits_mask .u64 64 (by decide) (fun n a b => wrap_id ⟨a, b⟩) 32 (by decide) x h0 h1
theorem mul_parts (x y : Int) : x * y = (x / 4294967296) * (y / 4294967296) * 18446744073709551616 + ((x / 4294967296) * (y % 4294967296) + (x % 4294967296) * (y / 4294967296)) * 4294967296 + (x % 4294967296) * (y % 4294967296) := by
  have hx : x = x / 4294967296 * 4294967296 + x % 4294967296 := by omega
  have hy : y = y / 4294967296 * 4294967296 + y % 4294967296 := by omega
  generalize x / 4294967296 = x1 at *
  generalize x % 4294967296 = x0 at *
  generalize y / 4294967296 = y1 at *
  generalize y % 4294967296 = y0 at *
  subst hx; subst hy
  rw [Int.add_mul, Int.mul_add, Int.mul_add]
  have e1 : x1 * 4294967296 * (y1 * 4294967296) = x1 * y1 * 18446744073709551616 := by
    rw [Int.mul_assoc, Int.mul_comm 4294967296 (y1 * 4294967296), Int.mul_assoc y1, ← Int.mul_assoc]; rfl
  have e2 : x1 * 4294967296 * y0 = x1 * y0 * 4294967296 := by rw [Int.mul_assoc, Int.mul_comm 4294967296, ← Int.mul_assoc]
  have e3 : x0 * (y1 * 4294967296) = x0 * y1 * 4294967296 := by rw [Int.mul_assoc]
  rw [e1, e2, e3]
  omega
section
variable {x y : Int}
theorem parts_bd (hx : U64 x) (hy : U64 y) :
    (0 ≤ (x / 4294967296) * (y / 4294967296) ∧ (x / 4294967296) * (y / 4294967296) ≤ 18446744065119617025) ∧ (0 ≤ (x / 4294967296) * (y % 4294967296) ∧ (x / 4294967296) * (y % 4294967296) ≤ 18446744065119617025) ∧
    (0 ≤ (x % 4294967296) * (y / 4294967296) ∧ (x % 4294967296) * (y / 4294967296) ≤ 18446744065119617025) ∧ (0 ≤ (x % 4294967296) * (y % 4294967296) ∧ (x % 4294967296) * (y % 4294967296) ≤ 18446744065119617025) := by
  obtain ⟨_, _⟩ := hx; obtain ⟨_, _⟩ := hy
  have b : ∀ a b : Int, 0 ≤ a → a ≤ 4294967295 → 0 ≤ b → b ≤ 4294967295 → 0 ≤ a * b ∧ a * b ≤ 18446744065119617025 := fun a b h0 h1 h2 h3 => mul_bd h0 h1 h2 h3
  exact ⟨b _ _ (by omega) (by omega) (by omega) (by omega), b _ _ (by omega) (by omega) (by omega) (by omega), b _ _ (by omega) (by omega) (by omega) (by omega), b _ _ (by omega) (by omega) (by omega) (by omega)⟩
theorem bits_Mul64_ok (hx : U64 x) (hy : U64 y) : bits_Mul64.f x y = some (x * y / 18446744073709551616, x * y % 18446744073709551616) := by
  obtain ⟨⟨a1, a2⟩, ⟨b1, b2⟩, ⟨c1, c2⟩, ⟨d1, d2⟩⟩ := parts_bd hx hy
  have e := mul_parts x y
  obtain ⟨hx0, hx1⟩ := hx; obtain ⟨hy0, hy1⟩ := hy
  unfold bits_Mul64.f
  rw [and_mask hx0 hx1, and_mask hy0 hy1, wrap_u64 (x * y)]
  generalize x / 4294967296 * (y / 4294967296) = p11 at *
  generalize x / 4294967296 * (y % 4294967296) = p10 at *
  generalize x % 4294967296 * (y / 4294967296) = p01 at *
  generalize x % 4294967296 * (y % 4294967296) = p00 at *
  generalize x * y = n at *
  rw [wrap_id (x := p11) ⟨by omega, by omega⟩, wrap_id (x := p10) ⟨by omega, by omega⟩, wrap_id (x := p00) ⟨by omega, by omega⟩, wrap_id (x := p01) ⟨by omega, by omega⟩,
    wrap_id (x := p10 + p00 / 4294967296) ⟨by omega, by omega⟩, and_mask (by omega) (by omega), wrap_id (x := (p10 + p00 / 4294967296) % 4294967296 + p01) ⟨by omega, by omega⟩,
    wrap_id (x := p11 + (p10 + p00 / 4294967296) / 4294967296) ⟨by omega, by omega⟩, wrap_id ⟨by omega, by omega⟩]
  congr 2
  omega
theorem wide_Mul_ok (hx : U64 x) (hy : U64 y) : wide_Mul.f x y = some (x * y / 18446744073709551616, x * y % 18446744073709551616) := by
  unfold wide_Mul.f
  rw [bits_Mul64_ok hx hy]
  rfl
end
section
variable {a0 a1 d : Int}
theorem wide_Div_ok (k : Nat) (hk : 20 ≤ k) (h0 : U64 a0) (h1 : U64 a1) (hd : 0 < d) (hd1 : d < 18446744073709551616) :
    wide_Div.f k a0 a1 d = some (wv a0 a1 / d / 18446744073709551616, wv a0 a1 / d % 18446744073709551616, wv a0 a1 % d, 0) := by
  obtain ⟨r1, r2, r3⟩ := div_rest (n := a0) hd
  have l0 := div_nonneg h0.1 hd
  have l1 := div_le h0.1 hd
  unfold wide_Div.f
  rw [if_neg (by omega), Div64_ok k hk 0 a0 d (by omega) h0 hd1 hd]
  simp only [Option.bind_some, Int.zero_mul, Int.zero_add]
  rw [Div64_ok k hk (a0 % d) a1 d r2 h1 hd1 r3]
  simp only [Option.bind_some]
  obtain ⟨g1, g2⟩ := h1
  obtain ⟨s1, s2, s3⟩ := div_rest (n := a0 % d * 18446744073709551616 + a1) hd
  have q0 := div_nonneg (n := a0 % d * 18446744073709551616 + a1) (by omega) hd
  have q1 : (a0 % d * 18446744073709551616 + a1) / d < 18446744073709551616 := div_lt hd (by omega)
  generalize (a0 % d * 18446744073709551616 + a1) / d = Q at *
  generalize (a0 % d * 18446744073709551616 + a1) % d = R at *
  generalize a0 / d = P at *
  have e : (P * 18446744073709551616 + Q) * d = P * d * 18446744073709551616 + Q * d := by
    rw [Int.add_mul, Int.mul_assoc, Int.mul_comm 18446744073709551616 d, ← Int.mul_assoc]
  obtain ⟨z1, z2⟩ := div_uniq (n := wv a0 a1) (y := d) (q := P * 18446744073709551616 + Q) (by unfold wv; omega) (by unfold wv; omega)
  rw [z1, z2, e]
  unfold wv
  congr 2
  · omega
  · congr 2
    · omega
    · congr 1
      omega
/-- The raised quotient. -/
def cdiv (n d : Int) : Int := (n + d - 1) / d
theorem cdiv_eq {n d : Int} (hd : 0 < d) : cdiv n d = if n % d = 0 then n / d else n / d + 1 := by
  unfold cdiv
  obtain ⟨r1, r2, r3⟩ := div_rest (n := n) hd
  split
  · exact (div_uniq (by omega) (by omega)).1
  · have e : (n / d + 1) * d = n / d * d + d := by rw [Int.add_mul, Int.one_mul]
    exact (div_uniq (by omega) (by omega)).1
theorem quot_bd (h0 : U64 a0) (h1 : U64 a1) (hd : 0 < d) : 0 ≤ wv a0 a1 / d ∧ wv a0 a1 / d < 340282366920938463463374607431768211456 := by
  obtain ⟨b0, b1⟩ := wv_bd h0 h1
  have := div_le b0 hd
  exact ⟨div_nonneg b0 hd, by omega⟩
theorem quot_up_bd (h0 : U64 a0) (h1 : U64 a1) (hd : 0 < d) : 0 ≤ cdiv (wv a0 a1) d ∧ cdiv (wv a0 a1) d < 340282366920938463463374607431768211456 := by
  obtain ⟨b0, b1⟩ := wv_bd h0 h1
  obtain ⟨q0, q1⟩ := quot_bd h0 h1 hd
  obtain ⟨r1, r2, r3⟩ := div_rest (n := wv a0 a1) hd
  rw [cdiv_eq hd]
  split
  · exact ⟨q0, q1⟩
  · have h2 : wv a0 a1 / d * 2 ≤ wv a0 a1 / d * d := Int.mul_le_mul_of_nonneg_left (by omega) q0
    omega
theorem wide_Up_ok (k : Nat) (hk : 20 ≤ k) (h0 : U64 a0) (h1 : U64 a1) (hd : 0 < d) (hd1 : d < 18446744073709551616) :
    wide_Up.f k a0 a1 d = some (cdiv (wv a0 a1) d / 18446744073709551616, cdiv (wv a0 a1) d % 18446744073709551616, 0) := by
  obtain ⟨q0, q1⟩ := quot_bd h0 h1 hd
  obtain ⟨u0, u1⟩ := quot_up_bd h0 h1 hd
  unfold wide_Up.f
  rw [wide_Div_ok k hk h0 h1 hd hd1]
  obtain ⟨k, rfl⟩ : ∃ m, k = m + 1 := ⟨k - 1, by omega⟩
  simp only [Option.bind_some, wide_Up.j0, ↓reduceIte]
  rw [cdiv_eq hd] at u0 u1 ⊢
  by_cases c : wv a0 a1 % d = 0
  · rw [if_pos (by simp [c]), if_pos c]
  · rw [if_neg c] at u0 u1
    rw [if_neg (by simpa using c), if_neg c, wide_Of_ok]
    simp only [Option.bind_some]
    rw [wide_Add_ok (U64_hi q0 q1) U64_lo U64_zero ⟨by decide, by decide⟩ (by rw [wv_of, wv_zero]; omega), wv_of, wv_zero]
    rfl
end
/-- A valid limit: Burst, Rate, Per. -/
def VL (b r p : Int) : Prop := 1 ≤ b ∧ b ≤ 1000000000 ∧ 0 ≤ r ∧ r ≤ 1000000000 ∧ 1 ≤ p ∧ p ≤ 1000000000
/-- A valid bucket: its limit, Level, Part, At. -/
def VB (b r p l q t : Int) : Prop := VL b r p ∧ 0 ≤ l ∧ l ≤ b ∧ 0 ≤ q ∧ q < p ∧ (l = b → q = 0) ∧ U64 t
section
variable {b r p l q t s : Int}
theorem CheckLimit_ok (h : VL b r p) : bucket_CheckLimit.f b r p = some 0 := by
  obtain ⟨_, _, _, _, _, _⟩ := h
  unfold bucket_CheckLimit.f
  rw [if_neg (by omega), if_neg (by omega), if_neg (by omega), if_neg (by omega), if_neg (by omega), if_neg (by omega)]
theorem CheckLimit_bad (h : ¬ VL b r p) : bucket_CheckLimit.f b r p = some 8 := by
  unfold bucket_CheckLimit.f
  unfold VL at h
  repeat' split
  all_goals first | rfl | (exfalso; omega)
theorem Check_ok (h : VB b r p l q t) : bucket_Check.f b r p l q t = some 0 := by
  obtain ⟨hl, h1, h2, h3, h4, h5, _⟩ := h
  have hb := hl.1
  have hb' := hl.2.1
  unfold bucket_Check.f
  rw [CheckLimit_ok hl]
  simp only [Option.bind_some, ↓reduceIte]
  rw [if_neg (by omega), wrap64_id (x := b - l) (by omega) (by omega), if_neg (by omega), if_neg (by omega), if_neg (by omega)]
  by_cases c : b - l = 0
  · rw [if_pos c, if_neg (by have := h5 (by omega); omega)]
  · rw [if_neg c]
theorem Check_bad (ht : U64 t) (hl : I64 l) (h : ¬ VB b r p l q t) : bucket_Check.f b r p l q t = some 8 := by
  obtain ⟨_, _⟩ := hl
  unfold bucket_Check.f
  by_cases hv : VL b r p
  · rw [CheckLimit_ok hv]
    simp only [Option.bind_some, ↓reduceIte]
    have h' : ¬ (0 ≤ l ∧ l ≤ b ∧ 0 ≤ q ∧ q < p ∧ (l = b → q = 0)) := fun g => h ⟨hv, g.1, g.2.1, g.2.2.1, g.2.2.2.1, g.2.2.2.2, ht⟩
    obtain ⟨_, _, _, _, _, _⟩ := hv
    by_cases c1 : l < 0
    · rw [if_pos c1]
    · rw [if_neg c1, wrap64_id (x := b - l) (by omega) (by omega)]
      repeat' split
      all_goals first | rfl | (exfalso; omega)
  · rw [CheckLimit_bad hv]
    simp
/-- Level, Part and At behind a refill at t. -/
def fN (r q s t : Int) : Int := (t - s) * r + q
def fL (b r p l q s t : Int) : Int := if t ≤ s then l else if fN r q s t / p ≥ b - l then b else l + fN r q s t / p
def fP (b r p l q s t : Int) : Int := if t ≤ s then q else if fN r q s t / p ≥ b - l then 0 else fN r q s t % p
def fT (s t : Int) : Int := if t ≤ s then s else t
theorem fN_bd (hv : VB b r p l q s) (ht : U64 t) (h : s ≤ t) : 0 ≤ fN r q s t ∧ fN r q s t ≤ 18446744073709551615000000000 + 1000000000 ∧ 0 ≤ (t - s) * r ∧ (t - s) * r ≤ 18446744073709551615000000000 := by
  obtain ⟨⟨_, _, _, _, _, _⟩, _, _, _, _, _, ⟨_, _⟩⟩ := hv
  obtain ⟨_, _⟩ := ht
  have := mul_bd (by omega : 0 ≤ t - s) (by omega : t - s ≤ 18446744073709551615) (by assumption : 0 ≤ r) (by assumption : r ≤ 1000000000)
  unfold fN
  omega
theorem fill_ok (k : Nat) (hk : 20 ≤ k) (hv : VB b r p l q s) (ht : U64 t) : bucket_fill.f k b r p l q s t = some (b, r, p, fL b r p l q s t, fP b r p l q s t, fT s t) := by
  unfold bucket_fill.f fL fP fT
  by_cases c : t ≤ s
  · rw [if_pos c, if_pos c, if_pos c, if_pos c]
  · rw [if_neg c, if_neg c, if_neg c, if_neg c]
    obtain ⟨n0, n1, m0, m1⟩ := fN_bd hv ht (by omega : s ≤ t)
    obtain ⟨⟨b0, b1, r0, r1, p0, p1⟩, l0, l1, q0, q1, _, ⟨s0, s1⟩⟩ := hv
    obtain ⟨t0, t1⟩ := ht
    have ur : U64 r := ⟨by omega, by omega⟩
    have uq : U64 q := ⟨by omega, by omega⟩
    have up : U64 p := ⟨by omega, by omega⟩
    have ud : U64 (t - s) := ⟨by omega, by omega⟩
    have ub : U64 (b - l) := ⟨by omega, by omega⟩
    rw [wrap_id ud, wrap_id ur, wrap_id uq, wrap_id up, wide_Mul_ok ud ur, wide_Of_ok]
    simp only [Option.bind_some]
    rw [wide_Add_ok (U64_hi m0 (by omega)) U64_lo U64_zero uq (by rw [wv_of, wv_zero]; omega), wv_of, wv_zero]
    simp only [Option.bind_some]
    have e : (t - s) * r + q = fN r q s t := rfl
    rw [e, wide_Div_ok k hk (U64_hi n0 (by omega)) U64_lo (by omega) up.2, wv_of]
    simp only [Option.bind_some]
    have d0 := div_nonneg n0 (by omega : 0 < p)
    obtain ⟨e1, e2, e3⟩ := div_rest (n := fN r q s t) (by omega : 0 < p)
    by_cases c2 : fN r q s t / p < 18446744073709551616
    · rw [wide_Small_ok (by omega)]
      simp only [Option.bind_some, ↓reduceIte]
      rw [wrap64_id (x := b - l) (by omega) (by omega), wrap_id ub, show fN r q s t / p % 18446744073709551616 = fN r q s t / p by omega]
      by_cases c3 : fN r q s t / p ≥ b - l
      · rw [if_pos c3, if_pos c3, if_pos c3]
      · rw [if_neg c3, if_neg c3, if_neg c3, wrap64_id (x := fN r q s t / p) (by omega) (by omega), wrap64_id (by omega) (by omega), wrap64_id (by omega) (by omega)]
    · rw [wide_Small_err (by omega)]
      simp only [Option.bind_some]
      rw [if_neg (by decide), if_pos (by omega), if_pos (by omega)]
/-- What a bucket holds behind a refill, in parts. -/
theorem fill_amt (hv : VB b r p l q s) (h : s ≤ t) :
    (l * p + q + (t - s) * r < b * p → fL b r p l q s t * p + fP b r p l q s t = l * p + q + (t - s) * r) ∧ (b * p ≤ l * p + q + (t - s) * r → fL b r p l q s t = b ∧ fP b r p l q s t = 0) := by
  obtain ⟨⟨b0, b1, r0, r1, p0, p1⟩, l0, l1, q0, q1, hf, _⟩ := hv
  unfold fL fP
  by_cases c : t ≤ s
  · rw [if_pos c, if_pos c]
    have : t = s := by omega
    subst this
    rw [Int.sub_self, Int.zero_mul, Int.add_zero]
    refine ⟨fun _ => rfl, fun h => ?_⟩
    rcases Int.lt_or_le l b with g | g
    · have := Int.mul_le_mul_of_nonneg_right (by omega : l + 1 ≤ b) (by omega : 0 ≤ p)
      rw [Int.add_mul, Int.one_mul] at this
      omega
    · exact ⟨by omega, hf (by omega)⟩
  · rw [if_neg c, if_neg c]
    obtain ⟨e1, e2, e3⟩ := div_rest (n := fN r q s t) (by omega : 0 < p)
    have ef : fN r q s t = (t - s) * r + q := rfl
    by_cases c3 : fN r q s t / p ≥ b - l
    · rw [if_pos c3, if_pos c3]
      have h1 := Int.mul_le_mul_of_nonneg_right c3 (by omega : 0 ≤ p)
      rw [Int.sub_mul] at h1
      exact ⟨fun h => by omega, fun _ => ⟨rfl, rfl⟩⟩
    · rw [if_neg c3, if_neg c3]
      have h1 := Int.mul_le_mul_of_nonneg_right (by omega : fN r q s t / p + 1 ≤ b - l) (by omega : 0 ≤ p)
      rw [Int.sub_mul, Int.add_mul, Int.one_mul] at h1
      rw [Int.add_mul]
      exact ⟨fun _ => by omega, fun h => by omega⟩
theorem fT_U64 (hs : U64 s) (ht : U64 t) : U64 (fT s t) := by unfold fT; split <;> assumption
theorem fill_valid (hv : VB b r p l q s) (ht : U64 t) : VB b r p (fL b r p l q s t) (fP b r p l q s t) (fT s t) := by
  have hv0 := hv
  obtain ⟨hl, l0, l1, q0, q1, hf, hs⟩ := hv
  refine ⟨hl, ?_⟩
  have hT := fT_U64 hs ht
  obtain ⟨b0, b1, r0, r1, p0, p1⟩ := hl
  by_cases c : t ≤ s
  · unfold fL fP
    rw [if_pos c, if_pos c]
    exact ⟨l0, l1, q0, q1, hf, hT⟩
  · obtain ⟨n0, n1, m0, m1⟩ := fN_bd hv0 ht (by omega : s ≤ t)
    unfold fL fP
    rw [if_neg c, if_neg c]
    obtain ⟨e1, e2, e3⟩ := div_rest (n := fN r q s t) (by omega : 0 < p)
    have d0 := div_nonneg n0 (by omega : 0 < p)
    by_cases c3 : fN r q s t / p ≥ b - l
    · rw [if_pos c3, if_pos c3]
      exact ⟨by omega, by omega, by omega, by omega, fun _ => rfl, hT⟩
    · rw [if_neg c3, if_neg c3]
      exact ⟨by omega, by omega, e2, e3, fun h => by omega, hT⟩
theorem Refill_ok (k : Nat) (hk : 20 ≤ k) (hv : VB b r p l q s) (ht : U64 t) : bucket_Refill.f k b r p l q s t = some (b, r, p, fL b r p l q s t, fP b r p l q s t, fT s t, 0) := by
  unfold bucket_Refill.f
  rw [Check_ok hv]
  simp only [Option.bind_some, ↓reduceIte]
  rw [fill_ok k hk hv ht]
  rfl
theorem charge_valid (hv : VB b r p l q s) {c : Int} (hc : 0 ≤ c) (h : c ≤ l) : VB b r p (l - c) q s := by
  obtain ⟨hl, l0, l1, q0, q1, hf, hs⟩ := hv
  exact ⟨hl, by omega, by omega, q0, q1, fun e => hf (by omega), hs⟩
theorem Full_ok (h : VL b r p) : bucket_Full.f b r p t = some (b, r, p, b, 0, t, 0) := by unfold bucket_Full.f; rw [CheckLimit_ok h]; rfl
theorem Full_bad (h : ¬ VL b r p) : bucket_Full.f b r p t = some (0, 0, 0, 0, 0, 0, 8) := by unfold bucket_Full.f; rw [CheckLimit_bad h]; rfl
theorem full_valid (h : VL b r p) (ht : U64 t) : VB b r p b 0 t := ⟨h, by have := h.1; omega, by omega, by omega, by have := h.2.2.2.2.1; omega, fun _ => rfl, ht⟩
/-- The wait for a cost. -/
def wN (r p l q c : Int) : Int := cdiv ((c - l) * p - q) r
def waitOf (b r p l q s c : Int) : Int := if c ≤ l then 0 else if c > b ∨ r = 0 then 18446744073709551615 else if wN r p l q c > 18446744073709551615 - s then 18446744073709551615 else wN r p l q c
theorem miss_bd (hv : VB b r p l q s) {c : Int} (h1 : l < c) (h2 : c ≤ b) : 0 < (c - l) * p - q ∧ (c - l) * p ≤ 1000000000000000000 ∧ p ≤ (c - l) * p := by
  obtain ⟨⟨_, _, _, _, _, _⟩, _, _, _, _, _, _⟩ := hv
  have h := Int.mul_le_mul_of_nonneg_right (by omega : 1 ≤ c - l) (by omega : 0 ≤ p)
  have g := (mul_bd (by omega : 0 ≤ c - l) (by omega : c - l ≤ 1000000000) (by omega : 0 ≤ p) (by omega : p ≤ 1000000000)).2
  rw [Int.one_mul] at h
  omega
theorem cdiv_bd {n d : Int} (hd : 0 < d) (hn : 0 < n) : 0 < cdiv n d ∧ cdiv n d ≤ n ∧ n ≤ cdiv n d * d ∧ cdiv n d * d < n + d := by
  unfold cdiv
  obtain ⟨e1, e2⟩ := div_bd (n := n + d - 1) hd
  have h1 : 1 ≤ (n + d - 1) / d := le_div hd (by omega)
  have h2 : (n + d - 1) / d * 1 ≤ (n + d - 1) / d * d := Int.mul_le_mul_of_nonneg_left (by omega) (by omega)
  refine ⟨by omega, ?_, by omega, by omega⟩
  rcases Int.lt_or_le n ((n + d - 1) / d) with h | h
  · have h3 := Int.mul_le_mul_of_nonneg_right (by omega : n + 1 ≤ (n + d - 1) / d) (by omega : 0 ≤ d)
    rw [Int.add_mul, Int.one_mul] at h3
    have h4 : n * 1 ≤ n * d := Int.mul_le_mul_of_nonneg_left (by omega) (by omega)
    omega
  · exact h
theorem Wait_ok (k : Nat) (hk : 20 ≤ k) (hv : VB b r p l q s) {c : Int} (hc : 0 ≤ c) (hc1 : I64 c) : bucket_Wait.f k b r p l q s c = some (waitOf b r p l q s c, 0) := by
  unfold bucket_Wait.f waitOf
  rw [Check_ok hv]
  simp only [Option.bind_some, ↓reduceIte]
  rw [if_neg (by omega)]
  by_cases c1 : c ≤ l
  · rw [if_pos c1, if_pos c1]
  · rw [if_neg c1, if_neg c1]
    by_cases c2 : c > b
    · rw [if_pos c2, if_pos (.inl c2)]
    · rw [if_neg c2]
      by_cases c3 : r = 0
      · rw [if_pos c3, if_pos (.inr c3)]
      · rw [if_neg c3, if_neg (by omega)]
        obtain ⟨m0, m1, m2⟩ := miss_bd hv (by omega : l < c) (by omega : c ≤ b)
        obtain ⟨⟨b0, b1, r0, r1, p0, p1⟩, l0, l1, q0, q1, _, ⟨s0, s1⟩⟩ := hv
        have ur : U64 r := ⟨by omega, by omega⟩
        have uq : U64 q := ⟨by omega, by omega⟩
        have up : U64 p := ⟨by omega, by omega⟩
        have uc : U64 (c - l) := ⟨by omega, by omega⟩
        obtain ⟨d0, d1, d2, d3⟩ := cdiv_bd (by omega : 0 < r) m0
        rw [wrap64_id (x := c - l) (by omega) (by omega), wrap_id uc, wrap_id up, wrap_id uq, wrap_id ur, wide_Mul_ok uc up, wide_Of_ok]
        simp only [Option.bind_some]
        rw [wide_Sub_ok (U64_hi (by omega) (by omega)) U64_lo U64_zero uq (by rw [wv_of, wv_zero]; omega), wv_of, wv_zero]
        simp only [Option.bind_some]
        rw [wide_Up_ok k hk (U64_hi (by omega) (by omega)) U64_lo (by omega) ur.2, wv_of]
        simp only [Option.bind_some]
        have ew : cdiv ((c - l) * p - q) r = wN r p l q c := rfl
        rw [ew] at d0 d1 d2 d3 ⊢
        rw [wide_Small_ok (by omega)]
        simp only [Option.bind_some, ↓reduceIte]
        rw [wrap_id (x := 18446744073709551615 - s) ⟨by omega, by omega⟩, show wN r p l q c % 18446744073709551616 = wN r p l q c by omega]
        by_cases c4 : wN r p l q c > 18446744073709551615 - s
        · rw [if_pos c4, if_pos c4]
        · rw [if_neg c4, if_neg c4]
end
section
variable {b r p l q t s c : Int}
/-- A bucket holds a cost exactly if its parts are enough. -/
theorem holds_iff {L P : Int} (p0 : 0 < p) (q0 : 0 ≤ P) (q1 : P < p) : c ≤ L ↔ c * p ≤ L * p + P := by
  constructor
  · intro h
    have := Int.mul_le_mul_of_nonneg_right h (by omega : 0 ≤ p)
    omega
  · intro h
    rcases Int.lt_or_le L c with g | g
    · have := Int.mul_le_mul_of_nonneg_right (by omega : L + 1 ≤ c) (by omega : 0 ≤ p)
      rw [Int.add_mul, Int.one_mul] at this
      omega
    · exact g
/-- Refilled at t, it holds the cost c, at most Burst, exactly if what came in is enough. -/
theorem fill_holds (hv : VB b r p l q s) (ht : U64 t) (h : s ≤ t) (hc : c ≤ b) : c ≤ fL b r p l q s t ↔ c * p ≤ l * p + q + (t - s) * r := by
  have hv' := fill_valid hv ht
  obtain ⟨f1, f2⟩ := fill_amt hv h
  obtain ⟨⟨_, _, _, _, p0, _⟩, _⟩ := hv
  obtain ⟨_, _, _, g0, g1, _⟩ := hv'
  rw [holds_iff (by omega) g0 g1]
  rcases Int.lt_or_le (l * p + q + (t - s) * r) (b * p) with g | g
  · rw [f1 g]
  · obtain ⟨e1, e2⟩ := f2 g
    rw [e1, e2]
    have := Int.mul_le_mul_of_nonneg_right hc (by omega : 0 ≤ p)
    omega
theorem fL_le (hv : VB b r p l q s) (ht : U64 t) : fL b r p l q s t ≤ b := (fill_valid hv ht).2.2.1
/-- What is known of the wait w for a cost c. -/
theorem wait_spec (hv : VB b r p l q s) (hc : 0 ≤ c) : 0 ≤ waitOf b r p l q s c ∧ (waitOf b r p l q s c = 18446744073709551615 → l < c ∧ ∀ t, U64 t → s ≤ t → fL b r p l q s t < c) ∧
    (waitOf b r p l q s c ≠ 18446744073709551615 → waitOf b r p l q s c ≤ 18446744073709551615 - s ∧ waitOf b r p l q s c ≤ 1000000000000000000 ∧ (waitOf b r p l q s c = 0 ↔ c ≤ l) ∧ c ≤ b ∧
      ∀ t, U64 t → s ≤ t → (c ≤ fL b r p l q s t ↔ waitOf b r p l q s c ≤ t - s)) := by
  have hv0 := hv
  obtain ⟨⟨b0, b1, r0, r1, p0, p1⟩, l0, l1, q0, q1, hf, ⟨s0, s1⟩⟩ := hv
  by_cases c1 : c ≤ l
  · have e : waitOf b r p l q s c = 0 := by unfold waitOf; rw [if_pos c1]
    rw [e]
    refine ⟨by omega, fun h => by omega, fun _ => ⟨by omega, by omega, ⟨fun _ => c1, fun _ => rfl⟩, by omega, fun t ht hst => ⟨fun _ => by omega, fun _ => ?_⟩⟩⟩
    rw [fill_holds hv0 ht hst (by omega)]
    have h1 := Int.mul_le_mul_of_nonneg_right c1 (by omega : 0 ≤ p)
    have h2 := Int.mul_nonneg (by omega : 0 ≤ t - s) r0
    omega
  · by_cases c2 : c > b ∨ r = 0
    · have e : waitOf b r p l q s c = 18446744073709551615 := by unfold waitOf; rw [if_neg c1, if_pos c2]
      rw [e]
      refine ⟨by omega, fun _ => ⟨by omega, fun t ht hst => ?_⟩, fun h => absurd rfl h⟩
      rcases c2 with c2 | c2
      · have := fL_le hv0 ht
        omega
      · rcases Int.lt_or_le b c with g | g
        · have := fL_le hv0 ht
          omega
        · have h := fill_holds hv0 ht hst g
          subst c2
          rw [Int.mul_zero] at h
          have h2 := holds_iff (p := p) (c := c) (L := l) (P := q) (by omega) q0 q1
          omega
    · have c2' : c ≤ b ∧ r ≠ 0 := by omega
      obtain ⟨m0, m1, m2⟩ := miss_bd hv0 (by omega : l < c) c2'.1
      obtain ⟨d0, d1, d2, d3⟩ := cdiv_bd (d := r) (by omega : 0 < r) m0
      have ew : cdiv ((c - l) * p - q) r = wN r p l q c := rfl
      rw [ew] at d0 d1 d2 d3
      rw [Int.sub_mul] at m0 m1 m2 d1 d2 d3
      have key : ∀ t, U64 t → s ≤ t → (c ≤ fL b r p l q s t ↔ wN r p l q c ≤ t - s) := by
        intro t ht hst
        rw [fill_holds hv0 ht hst c2'.1]
        constructor
        · intro h
          rcases Int.lt_or_le (t - s) (wN r p l q c) with g | g
          · have h3 := Int.mul_le_mul_of_nonneg_right (by omega : (t - s) + 1 ≤ wN r p l q c) r0
            rw [Int.add_mul, Int.one_mul] at h3
            omega
          · exact g
        · intro h
          have h3 := Int.mul_le_mul_of_nonneg_right h r0
          omega
      by_cases c4 : wN r p l q c > 18446744073709551615 - s
      · have e : waitOf b r p l q s c = 18446744073709551615 := by unfold waitOf; rw [if_neg c1, if_neg c2, if_pos c4]
        rw [e]
        refine ⟨by omega, fun _ => ⟨by omega, fun t ht hst => ?_⟩, fun h => absurd rfl h⟩
        have := key t ht hst
        have := ht.2
        omega
      · have e : waitOf b r p l q s c = wN r p l q c := by unfold waitOf; rw [if_neg c1, if_neg c2, if_neg c4]
        rw [e]
        exact ⟨by omega, fun h => by omega, fun _ => ⟨by omega, by omega, ⟨fun h => by omega, fun h => absurd h c1⟩, c2'.1, key⟩⟩
end
/-- A valid bucket; one whose fields are in their ranges; refilled; with a cost less. -/
def bV (x : S32) : Prop := VB x.f0.f0 x.f0.f1 x.f0.f2 x.f1 x.f2 x.f3
def bR (x : S32) : Prop := I64 x.f0.f0 ∧ I64 x.f0.f1 ∧ I64 x.f0.f2 ∧ I64 x.f1 ∧ I64 x.f2 ∧ U64 x.f3
def bfill (t : Int) (x : S32) : S32 := ⟨x.f0, fL x.f0.f0 x.f0.f1 x.f0.f2 x.f1 x.f2 x.f3 t, fP x.f0.f0 x.f0.f1 x.f0.f2 x.f1 x.f2 x.f3 t, fT x.f3 t⟩
def bsub (c : Int) (x : S32) : S32 := ⟨x.f0, x.f1 - c, x.f2, x.f3⟩
def bwait (c : Int) (x : S32) : Int := waitOf x.f0.f0 x.f0.f1 x.f0.f2 x.f1 x.f2 x.f3 c
theorem bfill_valid {t : Int} {x : S32} (h : bV x) (ht : U64 t) : bV (bfill t x) := fill_valid h ht
theorem bsub_valid {c : Int} {x : S32} (h : bV x) (h0 : 0 ≤ c) (h1 : c ≤ x.f1) : bV (bsub c x) := charge_valid h h0 h1
theorem rdB_at {l : List S32} {j : Nat} (h : j < l.length) : rd_T32 l (j : Int) = l[j] := by
  unfold rd_T32
  rw [List.getD_eq_getElem?_getD, Int.toNat_natCast, List.getElem?_eq_getElem h]
  rfl
theorem drop_cons {α : Type} {l : List α} {j : Nat} (h : j < l.length) : l.drop j = l[j] :: l.drop (j + 1) := List.drop_eq_getElem_cons h
/-! #### costs below 0 -/
theorem neg_idx (cs : List Int) (hn : cs.length ≤ 1000000) : ∀ (d j k : Nat), j + d = cs.length → d + 2 ≤ k → ∃ i : Int, slices_IndexFunc_int64_c33.l0 k cs (cs.length : Int) (j : Int) = some i ∧ (0 ≤ i ↔ ∃ c ∈ cs.drop j, c < 0) := by
  intro d
  induction d with
  | zero =>
    intro j k hj hk
    obtain ⟨k, rfl⟩ : ∃ m, k = m + 1 := ⟨k - 1, by omega⟩
    simp only [slices_IndexFunc_int64_c33.l0]
    rw [if_neg (by omega), List.drop_eq_nil_of_le (by omega)]
    exact ⟨-1, rfl, fun h => absurd h (by decide), fun ⟨_, h, _⟩ => by cases h⟩
  | succ d ih =>
    intro j k hj hk
    obtain ⟨k, rfl⟩ : ∃ m, k = m + 1 := ⟨k - 1, by omega⟩
    have hjl : j < cs.length := by omega
    simp only [slices_IndexFunc_int64_c33.l0]
    rw [if_pos (by omega), if_pos (by omega), if_pos (by omega), rd_at hjl, drop_cons hjl]
    simp only [levels_check_1.f, Option.bind_some]
    by_cases c : cs[j] < 0
    · rw [if_pos (decide_eq_true c)]
      exact ⟨j, rfl, fun _ => ⟨_, List.mem_cons_self, c⟩, fun _ => by omega⟩
    · rw [if_neg (by simpa using c), wj (by omega)]
      obtain ⟨i, e, h⟩ := ih (j + 1) k (by omega) (by omega)
      refine ⟨i, e, h.trans ⟨fun ⟨x, hx, h0⟩ => ⟨x, List.mem_cons_of_mem _ hx, h0⟩, fun ⟨x, hx, h0⟩ => ?_⟩⟩
      rcases List.mem_cons.1 hx with g | g
      · rw [g] at h0
        exact absurd h0 c
      · exact ⟨x, g, h0⟩
theorem neg_any (cs : List Int) (hn : cs.length ≤ 1000000) (k : Nat) (hk : cs.length + 2 ≤ k) (z : Int) : ∃ b, slices_ContainsFunc_int64_c33.f k cs z = some b ∧ (b = true ↔ ∃ c ∈ cs, c < 0) := by
  obtain ⟨i, e, h⟩ := neg_idx cs hn cs.length 0 k (by omega) (by omega)
  unfold slices_ContainsFunc_int64_c33.f slices_IndexFunc_int64_c33.f
  rw [show (0 : Int) = ((0 : Nat) : Int) from rfl, e]
  rw [List.drop_zero] at h
  exact ⟨_, rfl, by rw [decide_eq_true_iff]; exact h⟩
/-! #### checks -/
theorem check_loop (l : List S32) (cs : List Int) (hn : cs.length ≤ 1000000) (hl : l.length ≤ 8) : ∀ (d j k : Nat), j + d = l.length → d + cs.length + 4 ≤ k →
    ((∀ x ∈ l.drop j, bV x) → ∃ b, levels_check.l0 k l cs (l.length : Int) (j : Int) = some (if b = true then 2 else 0) ∧ (b = true ↔ ∃ c ∈ cs, c < 0)) ∧
    ((∀ x ∈ l, bR x) → ¬ (∀ x ∈ l.drop j, bV x) → levels_check.l0 k l cs (l.length : Int) (j : Int) = some 8) := by
  intro d
  induction d with
  | zero =>
    intro j k hj hk
    obtain ⟨k, rfl⟩ : ∃ m, k = m + 1 := ⟨k - 1, by omega⟩
    simp only [levels_check.l0]
    rw [if_neg (by omega), List.drop_eq_nil_of_le (by omega)]
    refine ⟨fun _ => ?_, fun _ h => absurd (fun x hx => by cases hx) h⟩
    obtain ⟨b, e, h⟩ := neg_any cs hn k (by omega) 0
    rw [e]
    refine ⟨b, ?_, h⟩
    simp only [Option.bind_some]
    split <;> rfl
  | succ d ih =>
    intro j k hj hk
    obtain ⟨k, rfl⟩ : ∃ m, k = m + 1 := ⟨k - 1, by omega⟩
    have hjl : j < l.length := by omega
    obtain ⟨i1, i2⟩ := ih (j + 1) k (by omega) (by omega)
    simp only [levels_check.l0]
    rw [if_pos (by omega), if_pos (by omega), if_pos (by omega), rdB_at hjl, drop_cons hjl, wj (by omega)]
    constructor
    · intro h
      rw [Check_ok (h _ List.mem_cons_self)]
      simp only [Option.bind_some, ↓reduceIte]
      exact i1 fun x hx => h x (List.mem_cons_of_mem _ hx)
    · intro hr h
      by_cases c : bV l[j]
      · rw [Check_ok c]
        simp only [Option.bind_some, ↓reduceIte]
        refine i2 hr fun g => h fun x hx => ?_
        rcases List.mem_cons.1 hx with e | e
        · rw [e]
          exact c
        · exact g x e
      · have hx := hr l[j] (List.getElem_mem hjl)
        rw [Check_bad hx.2.2.2.2.2 hx.2.2.2.1 c]
        rfl
/-- A valid row. -/
def lV (l : List S32) : Prop := l.length ≤ 8 ∧ ∀ x ∈ l, bV x
theorem check_ok {l : List S32} (h : lV l) (cs : List Int) (hn : cs.length ≤ 1000000) (k : Nat) (hk : cs.length + 12 ≤ k) (hc : ∀ c ∈ cs, 0 ≤ c) : levels_check.f k l cs = some 0 := by
  unfold levels_check.f
  obtain ⟨h1, h2⟩ := h
  rw [if_neg (by omega)]
  obtain ⟨b, e, g⟩ := (check_loop l cs hn h1 l.length 0 k (by omega) (by omega)).1 (by rw [List.drop_zero]; exact h2)
  rw [show (0 : Int) = ((0 : Nat) : Int) from rfl, e]
  have : ¬ b = true := fun hb => by obtain ⟨c, m, n⟩ := g.1 hb; have := hc c m; omega
  rw [if_neg this]
  rfl
theorem clone_ok {l : List S32} (h : l.length ≤ 1000000) : slices_Clone_api_Bucket.f l = some l := by
  unfold slices_Clone_api_Bucket.f
  simp only [Option.bind_some, List.length_nil, List.nil_append]
  rw [if_pos (by omega)]
theorem fill_loop (l : List S32) (t : Int) (ht : U64 t) (hn : l.length ≤ 1000000) (hv : ∀ x ∈ l, bV x) : ∀ (d j k : Nat), j + d = l.length → d + 25 ≤ k → levels_fill.l0 k t ((l.map (bfill t)).take j ++ l.drop j) (l.length : Int) (j : Int) = some (l.map (bfill t)) := by
  intro d
  induction d with
  | zero =>
    intro j k hj hk
    obtain ⟨k, rfl⟩ : ∃ m, k = m + 1 := ⟨k - 1, by omega⟩
    simp only [levels_fill.l0]
    rw [if_neg (by omega), List.drop_eq_nil_of_le (by omega), List.take_of_length_le (by rw [List.length_map]; omega), List.append_nil]
  | succ d ih =>
    intro j k hj hk
    obtain ⟨k, rfl⟩ : ∃ m, k = m + 1 := ⟨k - 1, by omega⟩
    have hjl : j < l.length := by omega
    have hlen := walk_len (bfill t) l j (by omega)
    have hj' : j < ((l.map (bfill t)).take j ++ l.drop j).length := by omega
    simp only [levels_fill.l0]
    rw [if_pos (by omega), if_pos (by omega), if_pos (by omega), rdB_at hj', walk_get (bfill t) l hjl hj']
    rw [Refill_ok k (by omega) (hv _ (List.getElem_mem hjl)) ht]
    simp only [Option.bind_some, Int.toNat_natCast]
    have e := set_walk (bfill t) l hjl
    unfold bfill at e
    rw [wj (by omega)]
    refine Eq.trans ?_ (ih (j + 1) k (by omega) (by omega))
    congr 1
theorem fill_row {l : List S32} {t : Int} (ht : U64 t) (hn : l.length ≤ 1000000) (hv : ∀ x ∈ l, bV x) (k : Nat) (hk : l.length + 25 ≤ k) : levels_fill.f k l t = some (l.map (bfill t)) := by
  unfold levels_fill.f
  rw [clone_ok hn]
  simp only [Option.bind_some]
  have e := fill_loop l t ht hn hv l.length 0 k (by omega) hk
  rw [List.take_zero, List.drop_zero, List.nil_append] at e
  exact e
def lHolds (l : List S32) (c : Int) : Bool := !(l.any fun b => decide (b.f1 < c))
theorem lHolds_iff {l : List S32} {c : Int} : lHolds l c = true ↔ ∀ x ∈ l, c ≤ x.f1 := by
  unfold lHolds
  rw [Bool.not_eq_true', List.any_eq_false]
  constructor
  · intro h x hx
    have := h x hx
    rw [decide_eq_true_iff] at this
    omega
  · intro h x hx
    have := h x hx
    rw [decide_eq_true_iff]
    omega
theorem holds_row (l : List S32) (c : Int) : levels_holds.f l c = some (lHolds l c) := rfl
def lTake (l : List S32) (t c : Int) : List S32 × Bool := if lHolds (l.map (bfill t)) c = true then ((l.map (bfill t)).map (bsub c), true) else (l.map (bfill t), false)
theorem bsub_wrap {c : Int} {x : S32} (h : bV x) (h0 : 0 ≤ c) (h1 : c ≤ x.f1) : wrap64 (x.f1 - c) = x.f1 - c := by
  obtain ⟨⟨_, _, _⟩, _, _, _⟩ := h
  exact wrap64_id (by omega) (by omega)
theorem take_loop (l : List S32) (c : Int) (h0 : 0 ≤ c) (hn : l.length ≤ 1000000) (hv : ∀ x ∈ l, bV x) (hc : ∀ x ∈ l, c ≤ x.f1) : ∀ (d j k : Nat), j + d = l.length → d + 1 ≤ k → levels_take.l0 k c ((l.map (bsub c)).take j ++ l.drop j) (l.length : Int) (j : Int) = some (l.map (bsub c), true) := by
  intro d
  induction d with
  | zero =>
    intro j k hj hk
    obtain ⟨k, rfl⟩ : ∃ m, k = m + 1 := ⟨k - 1, by omega⟩
    simp only [levels_take.l0]
    rw [if_neg (by omega), List.drop_eq_nil_of_le (by omega), List.take_of_length_le (by rw [List.length_map]; omega), List.append_nil]
  | succ d ih =>
    intro j k hj hk
    obtain ⟨k, rfl⟩ : ∃ m, k = m + 1 := ⟨k - 1, by omega⟩
    have hjl : j < l.length := by omega
    have hlen := walk_len (bsub c) l j (by omega)
    have hj' : j < ((l.map (bsub c)).take j ++ l.drop j).length := by omega
    simp only [levels_take.l0]
    rw [if_pos (by omega), if_pos (by omega), if_pos (by omega), rdB_at hj', walk_get (bsub c) l hjl hj', bsub_wrap (hv _ (List.getElem_mem hjl)) h0 (hc _ (List.getElem_mem hjl))]
    simp only [Int.toNat_natCast]
    have e := set_walk (bsub c) l hjl
    unfold bsub at e
    rw [wj (by omega)]
    refine Eq.trans ?_ (ih (j + 1) k (by omega) (by omega))
    congr 1
theorem map_valid {l : List S32} {t : Int} (ht : U64 t) (hv : ∀ x ∈ l, bV x) : ∀ x ∈ l.map (bfill t), bV x := by
  intro x hx
  obtain ⟨y, hy, rfl⟩ := List.mem_map.1 hx
  exact bfill_valid (hv y hy) ht
theorem take_row {l : List S32} {t c : Int} (ht : U64 t) (h0 : 0 ≤ c) (hn : l.length ≤ 1000000) (hv : ∀ x ∈ l, bV x) (k : Nat) (hk : l.length + 25 ≤ k) : levels_take.f k l t c = some (lTake l t c) := by
  unfold levels_take.f
  rw [fill_row ht hn hv k hk]
  simp only [Option.bind_some]
  rw [holds_row]
  simp only [Option.bind_some]
  unfold lTake
  by_cases g : lHolds (l.map (bfill t)) c = true
  · rw [if_pos g, if_pos g]
    have e := take_loop (l.map (bfill t)) c h0 (by rw [List.length_map]; exact hn) (map_valid ht hv) (lHolds_iff.1 g) (l.map (bfill t)).length 0 k (by omega) (by rw [List.length_map]; omega)
    rw [List.take_zero, List.drop_zero, List.nil_append] at e
    exact e
  · rw [if_neg g, if_neg g]
/-! #### the least level -/
theorem same_loop (l m : List S32) (hn : l.length ≤ 1000000) (e : l = m) : ∀ (d j k : Nat), j + d = l.length → d + 1 ≤ k → spigotref04_Same.l0 k l m (j : Int) = some true := by
  subst e
  intro d
  induction d with
  | zero =>
    intro j k hj hk
    obtain ⟨k, rfl⟩ : ∃ m, k = m + 1 := ⟨k - 1, by omega⟩
    simp only [spigotref04_Same.l0]
    rw [if_neg (by omega)]
  | succ d ih =>
    intro j k hj hk
    obtain ⟨k, rfl⟩ : ∃ m, k = m + 1 := ⟨k - 1, by omega⟩
    simp only [spigotref04_Same.l0]
    rw [if_pos (by omega), if_pos (by omega), if_pos (by omega), if_neg (by simp), wj (by omega)]
    exact ih (j + 1) k (by omega) (by omega)
theorem same_self (l : List S32) (hn : l.length ≤ 1000000) (k : Nat) (hk : l.length + 1 ≤ k) : spigotref04_Same.f k l l = some true := by
  unfold spigotref04_Same.f
  rw [if_pos rfl]
  exact same_loop l l hn rfl l.length 0 k (by omega) hk
theorem sameb_loop (l : List Bool) (hn : l.length ≤ 1000000) : ∀ (d j k : Nat), j + d = l.length → d + 1 ≤ k → spigotref04_SameBools.l0 k l l (j : Int) = some true := by
  intro d
  induction d with
  | zero =>
    intro j k hj hk
    obtain ⟨k, rfl⟩ : ∃ m, k = m + 1 := ⟨k - 1, by omega⟩
    simp only [spigotref04_SameBools.l0]
    rw [if_neg (by omega)]
  | succ d ih =>
    intro j k hj hk
    obtain ⟨k, rfl⟩ : ∃ m, k = m + 1 := ⟨k - 1, by omega⟩
    simp only [spigotref04_SameBools.l0]
    rw [if_pos (by omega), if_pos (by omega), if_pos (by omega), if_neg (by simp), wj (by omega)]
    exact ih (j + 1) k (by omega) (by omega)
theorem sameb_self (l : List Bool) (hn : l.length ≤ 1000000) (k : Nat) (hk : l.length + 1 ≤ k) : spigotref04_SameBools.f k l l = some true := by
  unfold spigotref04_SameBools.f
  rw [if_pos rfl]
  exact sameb_loop l hn l.length 0 k (by omega) hk
/-! #### waits -/
def lWait (l : List S32) (c n : Int) : Int := l.foldl (fun n x => mx n (bwait c x)) n
theorem wait_loop (l : List S32) (c : Int) (h0 : 0 ≤ c) (h1 : I64 c) (hn : l.length ≤ 1000000) (hv : ∀ x ∈ l, bV x) : ∀ (d j k : Nat) (n : Int), j + d = l.length → d + 40 ≤ k → levels_Wait.l0 k c n l (l.length : Int) (j : Int) = some (lWait (l.drop j) c n, 0) := by
  intro d
  induction d with
  | zero =>
    intro j k n hj hk
    obtain ⟨k, rfl⟩ : ∃ m, k = m + 1 := ⟨k - 1, by omega⟩
    simp only [levels_Wait.l0]
    rw [if_neg (by omega), List.drop_eq_nil_of_le (by omega)]
    rfl
  | succ d ih =>
    intro j k n hj hk
    obtain ⟨k, rfl⟩ : ∃ m, k = m + 1 := ⟨k - 1, by omega⟩
    have hjl : j < l.length := by omega
    simp only [levels_Wait.l0]
    rw [if_pos (by omega), if_pos (by omega), if_pos (by omega), rdB_at hjl, Wait_ok k (by omega) (hv _ (List.getElem_mem hjl)) h0 h1]
    simp only [Option.bind_some]
    rw [wj (by omega), ih (j + 1) k _ (by omega) (by omega), drop_cons hjl]
    rfl
theorem wait_row {l : List S32} {c : Int} (hv : lV l) (h0 : 0 ≤ c) (h1 : I64 c) (k : Nat) (hk : 60 ≤ k) : levels_Wait.f k l c = some (lWait l c 0, 0) := by
  unfold levels_Wait.f
  rw [check_ok hv [c] (by simp) k (by simp; omega) (by simpa using h0)]
  simp only [Option.bind_some, ↓reduceIte]
  have e := wait_loop l c h0 h1 (by have := hv.1; omega) hv.2 l.length 0 k 0 (by omega) (by have := hv.1; omega)
  rw [List.drop_zero] at e
  exact e
theorem Refill_row {l : List S32} {t : Int} (hv : lV l) (ht : U64 t) (k : Nat) (hk : 60 ≤ k) : levels_Refill.f k l t = some (l.map (bfill t), 0) := by
  unfold levels_Refill.f
  rw [check_ok hv [] (by simp) k (by simp; omega) (by simp)]
  simp only [Option.bind_some, ↓reduceIte]
  rw [fill_row ht (by have := hv.1; omega) hv.2 k (by have := hv.1; omega)]
  rfl
theorem Holds_row {l : List S32} {c : Int} (hv : lV l) (h0 : 0 ≤ c) (k : Nat) (hk : 60 ≤ k) : levels_Holds.f k l c = some (lHolds l c, 0) := by
  unfold levels_Holds.f
  rw [check_ok hv [c] (by simp) k (by simp; omega) (by simpa using h0)]
  simp only [Option.bind_some, ↓reduceIte]
  rw [holds_row]
  rfl
theorem Take_row {l : List S32} {t c : Int} (hv : lV l) (ht : U64 t) (h0 : 0 ≤ c) (k : Nat) (hk : 60 ≤ k) : levels_Take.f k l t c = some ((lTake l t c).1, (lTake l t c).2, 0) := by
  unfold levels_Take.f
  rw [check_ok hv [c] (by simp) k (by simp; omega) (by simpa using h0)]
  simp only [Option.bind_some, ↓reduceIte]
  rw [take_row ht h0 (by have := hv.1; omega) hv.2 k (by have := hv.1; omega)]
  rfl
theorem lTake_valid {l : List S32} {t c : Int} (hv : lV l) (ht : U64 t) (h0 : 0 ≤ c) : lV (lTake l t c).1 ∧ (lTake l t c).1.length = l.length := by
  obtain ⟨h1, h2⟩ := hv
  have hm := map_valid ht h2
  unfold lTake
  by_cases g : lHolds (l.map (bfill t)) c = true
  · rw [if_pos g]
    refine ⟨⟨by simpa using h1, ?_⟩, by simp⟩
    intro x hx
    obtain ⟨y, hy, rfl⟩ := List.mem_map.1 hx
    exact bsub_valid (hm y hy) h0 (lHolds_iff.1 g y hy)
  · rw [if_neg g]
    exact ⟨⟨by simpa using h1, hm⟩, by simp⟩
def lRun : List Int → List Int → List S32 → List S32 × List Bool
  | t :: ts, c :: cs, l => ((lRun ts cs (lTake l t c).1).1, (lTake l t c).2 :: (lRun ts cs (lTake l t c).1).2)
  | _, _, l => (l, [])
theorem lRun_nil (cs : List Int) (l : List S32) : lRun [] cs l = (l, []) := by cases cs <;> rfl
theorem lRun_len : ∀ (ts cs : List Int) (l : List S32), ts.length = cs.length → (lRun ts cs l).2.length = ts.length := by
  intro ts
  induction ts with
  | nil => intro cs l _; rw [lRun_nil]; rfl
  | cons t ts ih =>
    intro cs l h
    cases cs with
    | nil => simp at h
    | cons c cs => simp only [lRun, List.length_cons]; rw [ih cs _ (by simpa using h)]
theorem lRun_valid : ∀ (ts cs : List Int) (l : List S32), (∀ y ∈ ts, U64 y) → (∀ y ∈ cs, 0 ≤ y) → lV l → lV (lRun ts cs l).1 ∧ (lRun ts cs l).1.length = l.length := by
  intro ts
  induction ts with
  | nil => intro cs l _ _ hv; rw [lRun_nil]; exact ⟨hv, rfl⟩
  | cons t ts ih =>
    intro cs l ht hc hv
    cases cs with
    | nil => exact ⟨hv, rfl⟩
    | cons c cs =>
      obtain ⟨h1, h2⟩ := lTake_valid (t := t) (c := c) hv (ht t List.mem_cons_self) (hc c List.mem_cons_self)
      obtain ⟨h3, h4⟩ := ih cs _ (fun y hy => ht y (List.mem_cons_of_mem _ hy)) (fun y hy => hc y (List.mem_cons_of_mem _ hy)) h1
      exact ⟨h3, by simp only [lRun]; omega⟩
theorem run_loop (ts cs : List Int) (ht : ∀ y ∈ ts, U64 y) (hc : ∀ y ∈ cs, 0 ≤ y) (hi : ∀ y ∈ cs, I64 y) (hn : ts.length ≤ 200) (hl : cs.length = ts.length) : ∀ (d j k : Nat) (now : List S32) (adm : List Bool), j + d = ts.length → d + 40 ≤ k → lV now → adm.length + d ≤ 300 →
    levels_Run.l0 k cs now adm ts (ts.length : Int) (j : Int) = some ((lRun (ts.drop j) (cs.drop j) now).1, adm ++ (lRun (ts.drop j) (cs.drop j) now).2, 0) := by
  intro d
  induction d with
  | zero =>
    intro j k now adm hj hk hv ha
    obtain ⟨k, rfl⟩ : ∃ m, k = m + 1 := ⟨k - 1, by omega⟩
    simp only [levels_Run.l0]
    rw [if_neg (by omega), List.drop_eq_nil_of_le (show ts.length ≤ j by omega), lRun_nil, List.append_nil]
  | succ d ih =>
    intro j k now adm hj hk hv ha
    obtain ⟨k, rfl⟩ : ∃ m, k = m + 1 := ⟨k - 1, by omega⟩
    have h1 : j < ts.length := by omega
    have h2 : j < cs.length := by omega
    have t1 := ht _ (List.getElem_mem h1)
    have c1 := hc _ (List.getElem_mem h2)
    have n8 := hv.1
    obtain ⟨v1, v2⟩ := lTake_valid (t := ts[j]) (c := cs[j]) hv t1 c1
    simp only [levels_Run.l0]
    rw [if_pos (by omega), if_pos (by omega), if_pos (by omega), if_pos (by omega), rd_at h1, rd_at h2, take_row t1 c1 (by omega) hv.2 k (by omega)]
    simp only [Option.bind_some]
    rw [if_pos (by omega), wj (by omega), ih (j + 1) k _ _ (by omega) (by omega) v1 (by simp; omega), drop_cons h1, drop_cons h2]
    simp [lRun]
theorem costs_loop (ts cs : List Int) (hn : cs.length ≤ 9223372036854775807) : ∀ (d j k : Nat), j + d = cs.length → d + 1 ≤ k → ∃ b, spigotref04_Costs.l0 k ts cs (j : Int) = some b ∧ (b = true ↔ cs.length = ts.length ∧ ∀ c ∈ cs.drop j, 0 ≤ c) := by
  intro d
  induction d with
  | zero =>
    intro j k hj hk
    obtain ⟨k, rfl⟩ : ∃ m, k = m + 1 := ⟨k - 1, by omega⟩
    simp only [spigotref04_Costs.l0]
    rw [if_neg (by omega), List.drop_eq_nil_of_le (by omega)]
    refine ⟨_, rfl, ?_⟩
    rw [beq_iff_eq]
    exact ⟨fun h => ⟨by omega, fun c hc => by cases hc⟩, fun h => by omega⟩
  | succ d ih =>
    intro j k hj hk
    obtain ⟨k, rfl⟩ : ∃ m, k = m + 1 := ⟨k - 1, by omega⟩
    have h2 : j < cs.length := by omega
    simp only [spigotref04_Costs.l0]
    rw [if_pos (by omega), if_pos (by omega), rd_at h2, drop_cons h2]
    by_cases c : cs[j] < 0
    · rw [if_pos c]
      exact ⟨false, rfl, ⟨fun h => (by cases h), fun h => (by have := h.2 _ List.mem_cons_self; omega)⟩⟩
    · rw [if_neg c, wj (by omega)]
      obtain ⟨b, e, h⟩ := ih (j + 1) k (by omega) (by omega)
      refine ⟨b, e, h.trans ?_⟩
      rw [List.forall_mem_cons]
      exact ⟨fun g => ⟨g.1, by omega, g.2⟩, fun g => ⟨g.1, g.2.2⟩⟩
theorem costs_row (ts cs : List Int) (hn : cs.length ≤ 9223372036854775807) (k : Nat) (hk : cs.length + 1 ≤ k) : ∃ b, spigotref04_Costs.f k ts cs = some b ∧ (b = true ↔ cs.length = ts.length ∧ ∀ c ∈ cs, 0 ≤ c) := by
  have e := costs_loop ts cs hn cs.length 0 k (by omega) hk
  rw [List.drop_zero] at e
  exact e
theorem lV_nil : lV ([] : List S32) := ⟨by simp, fun x hx => by cases hx⟩
/-- A run of a valid row, with as many costs, none less than 0, as ticks. -/
theorem Run_row {l : List S32} {ts cs : List Int} (hv : lV l) (ht : ∀ y ∈ ts, U64 y) (hc : ∀ y ∈ cs, 0 ≤ y) (hi : ∀ y ∈ cs, I64 y) (hn : ts.length ≤ 200) (hl : cs.length = ts.length) (k : Nat) (hk : 600 ≤ k) :
    levels_Run.f k l ts cs = some ((lRun ts cs l).1, (lRun ts cs l).2, 0) := by
  unfold levels_Run.f
  rw [check_ok hv [] (by simp) k (by simp; omega) (by simp)]
  simp only [Option.bind_some, ↓reduceIte]
  rw [if_neg (by omega), check_ok lV_nil cs (by omega) k (by omega) hc]
  simp only [Option.bind_some, ↓reduceIte]
  obtain ⟨k, rfl⟩ : ∃ m, k = m + 1 := ⟨k - 1, by omega⟩
  simp only [levels_Run.j0]
  rw [if_neg (by simp; omega), clone_ok (by have := hv.1; omega)]
  simp only [Option.bind_some]
  have e := run_loop ts cs ht hc hi hn hl ts.length 0 k l [] (by omega) (by omega) hv (by simp; omega)
  rw [List.drop_zero, List.drop_zero, List.nil_append] at e
  exact e
section
variable {b r p l q s t u c : Int}
/-- The parts of a bucket, refilled at t. -/
def fA (b r p l q s t : Int) : Int := fL b r p l q s t * p + fP b r p l q s t
theorem fA_eq (hv : VB b r p l q s) : fA b r p l q s t = if t ≤ s then l * p + q else if l * p + q + (t - s) * r < b * p then l * p + q + (t - s) * r else b * p := by
  unfold fA
  by_cases h : t ≤ s
  · rw [if_pos h]
    unfold fL fP
    rw [if_pos h, if_pos h]
  · rw [if_neg h]
    obtain ⟨f1, f2⟩ := fill_amt hv (by omega : s ≤ t)
    by_cases g : l * p + q + (t - s) * r < b * p
    · rw [if_pos g, f1 g]
    · rw [if_neg g]
      obtain ⟨e1, e2⟩ := f2 (by omega)
      rw [e1, e2]
      omega
theorem amt_le (hv : VB b r p l q s) : 0 ≤ l * p + q ∧ l * p + q ≤ b * p := by
  obtain ⟨⟨b0, b1, r0, r1, p0, p1⟩, l0, l1, q0, q1, hf, hs⟩ := hv
  have h0 := Int.mul_nonneg l0 (by omega : 0 ≤ p)
  rcases Int.lt_or_le l b with g | g
  · have := Int.mul_le_mul_of_nonneg_right (by omega : l + 1 ≤ b) (by omega : 0 ≤ p)
    rw [Int.add_mul, Int.one_mul] at this
    omega
  · have e : l = b := by omega
    subst e
    have := hf rfl
    omega
end
theorem clampL_len : ∀ (ts : List Int) (now : Int), (clampL now ts).length = ts.length := by
  intro ts
  induction ts with
  | nil => intro now; rfl
  | cons t ts ih => intro now; simp only [clampL, List.length_cons]; rw [ih]
theorem clampL_U64 : ∀ (ts : List Int) (now : Int), U64 now → (∀ y ∈ ts, U64 y) → ∀ y ∈ clampL now ts, U64 y := by
  intro ts
  induction ts with
  | nil => intro now _ _ y hy; cases hy
  | cons t ts ih =>
    intro now hn ht y hy
    have h1 := ht t List.mem_cons_self
    have h2 : U64 (mx now t) := by unfold mx; split <;> assumption
    rcases List.mem_cons.1 hy with e | e
    · rw [e]; exact h2
    · exact ih _ h2 (fun z hz => ht z (List.mem_cons_of_mem _ hz)) y e
theorem lastL_spec : ∀ (ts : List Int) (now : Int), U64 now → (∀ y ∈ ts, U64 y) → now ≤ lastL now ts ∧ U64 (lastL now ts) := by
  intro ts
  induction ts with
  | nil => intro now hn _; exact ⟨Int.le_refl _, hn⟩
  | cons t ts ih =>
    intro now hn ht
    have h1 := ht t List.mem_cons_self
    have h2 : U64 (mx now t) := by unfold mx; split <;> assumption
    obtain ⟨h3, h4⟩ := ih _ h2 (fun z hz => ht z (List.mem_cons_of_mem _ hz))
    have h5 : now ≤ mx now t := by unfold mx; split <;> omega
    exact ⟨Int.le_trans h5 h3, h4⟩
theorem bfill_mx {x : S32} {now t : Int} (h : x.f3 = now) : bfill (mx now t) x = bfill t x := by
  by_cases c : t ≤ now
  · have e : mx now t = now := by unfold mx; split <;> omega
    rw [e]
    unfold bfill fL fP fT
    rw [h]
    simp [c]
  · have e : mx now t = t := by unfold mx; split <;> omega
    rw [e]
theorem bfill_at {x : S32} {now t : Int} (h : x.f3 = now) : (bfill t x).f3 = mx now t := by
  show fT x.f3 t = _
  unfold fT mx
  rw [h]
  split <;> split <;> omega
theorem lTake_mx {l : List S32} {now t c : Int} (h : ∀ x ∈ l, x.f3 = now) : lTake l (mx now t) c = lTake l t c := by
  have e : l.map (bfill (mx now t)) = l.map (bfill t) := List.map_congr_left fun x hx => bfill_mx (h x hx)
  unfold lTake
  rw [e]
theorem lTake_at {l : List S32} {now t c : Int} (h : ∀ x ∈ l, x.f3 = now) : ∀ x ∈ (lTake l t c).1, x.f3 = mx now t := by
  unfold lTake
  split
  · intro x hx
    obtain ⟨y, hy, rfl⟩ := List.mem_map.1 hx
    obtain ⟨z, hz, rfl⟩ := List.mem_map.1 hy
    exact bfill_at (h z hz)
  · intro x hx
    obtain ⟨z, hz, rfl⟩ := List.mem_map.1 hx
    exact bfill_at (h z hz)
theorem lRun_clamp : ∀ (ts cs : List Int) (l : List S32) (now : Int), (∀ x ∈ l, x.f3 = now) → lRun (clampL now ts) cs l = lRun ts cs l := by
  intro ts
  induction ts with
  | nil => intro cs l now _; rfl
  | cons t ts ih =>
    intro cs l now h
    cases cs with
    | nil => rfl
    | cons c cs =>
      simp only [clampL, lRun]
      rw [lTake_mx h, ih cs _ _ (lTake_at h)]
/-- What was charged. -/
def chg : List Bool → List Int → Int → Int
  | b :: bs, c :: cs, a => chg bs cs (if b = true then IntKind.u64.wrap (a + IntKind.u64.wrap c) else a)
  | _, _, a => a
/-- What a bucket has, and what was charged, is at most its burst and what came in. -/
def tInv (a now C : Int) (x : S32) : Prop := x.f3 = now ∧ C * x.f0.f2 + (x.f1 * x.f0.f2 + x.f2) ≤ x.f0.f0 * x.f0.f2 + (now - a) * x.f0.f1
theorem tInv_fill {a now C t : Int} {x : S32} (hv : bV x) (ht : U64 t) (h : tInv a now C x) (hC : 0 ≤ C) (ha : a ≤ now) (hC2 : C * x.f0.f2 + (x.f1 * x.f0.f2 + x.f2) ≤ x.f0.f0 * x.f0.f2 + (now - a) * x.f0.f1) : tInv a (mx now t) C (bfill t x) := by
  obtain ⟨h1, h2⟩ := h
  refine ⟨bfill_at h1, ?_⟩
  have e : fA x.f0.f0 x.f0.f1 x.f0.f2 x.f1 x.f2 x.f3 t = (bfill t x).f1 * x.f0.f2 + (bfill t x).f2 := rfl
  show C * x.f0.f2 + ((bfill t x).f1 * x.f0.f2 + (bfill t x).f2) ≤ x.f0.f0 * x.f0.f2 + (mx now t - a) * x.f0.f1
  rw [← e, fA_eq hv, h1]
  have hr := hv.1.2.2.1
  by_cases c : t ≤ now
  · have e2 : mx now t = now := by unfold mx; split <;> omega
    rw [if_pos c, e2]
    exact h2
  · have e2 : mx now t = t := by unfold mx; split <;> omega
    rw [if_neg c, e2]
    have e3 : (t - a) * x.f0.f1 = (now - a) * x.f0.f1 + (t - now) * x.f0.f1 := by rw [← Int.add_mul]; congr 1; omega
    split <;> omega
theorem top_run : ∀ (ts cs : List Int) (l : List S32) (a now C : Int), (∀ y ∈ ts, U64 y) → (∀ y ∈ cs, 0 ≤ y) → ts.length = cs.length → lV l → l ≠ [] → a ≤ now → 0 ≤ C → C + ts.length * 1000000000 ≤ 1000000000000 → (∀ x ∈ l, tInv a now C x) →
    (∀ x ∈ (lRun ts cs l).1, tInv a (lastL now ts) (chg (lRun ts cs l).2 cs C) x) ∧ 0 ≤ chg (lRun ts cs l).2 cs C ∧ chg (lRun ts cs l).2 cs C ≤ 1000000000000 := by
  intro ts
  induction ts with
  | nil =>
    intro cs l a now C _ _ _ _ _ _ hC hC1 hx
    rw [lRun_nil]
    exact ⟨by cases cs <;> exact hx, by cases cs <;> exact hC, by cases cs <;> · simp only [chg]; simp only [List.length_nil] at hC1; omega⟩
  | cons t ts ih =>
    intro cs l a now C ht hc hl hv hne ha hC hC1 hx
    cases cs with
    | nil => simp at hl
    | cons c cs =>
      have ht0 := ht t List.mem_cons_self
      have hc0 := hc c List.mem_cons_self
      obtain ⟨v1, v2⟩ := lTake_valid (t := t) (c := c) hv ht0 hc0
      have hmx : now ≤ mx now t := by unfold mx; split <;> omega
      have hne' : (lTake l t c).1 ≠ [] := by
        intro e
        rw [e] at v2
        exact hne (List.length_eq_zero_iff.1 v2.symm)
      simp only [List.length_cons] at hC1 hl
      have fx : ∀ x ∈ l, tInv a (mx now t) C (bfill t x) := fun x h => tInv_fill (hv.2 x h) ht0 (hx x h) hC ha (hx x h).2
      simp only [lRun, lastL, chg]
      by_cases g : lHolds (l.map (bfill t)) c = true
      · have e1 : (lTake l t c).2 = true := by unfold lTake; rw [if_pos g]
        have e2 : (lTake l t c).1 = (l.map (bfill t)).map (bsub c) := by unfold lTake; rw [if_pos g]
        obtain ⟨y, hy⟩ := List.exists_mem_of_ne_nil l hne
        have hy1 := (lHolds_iff.1 g) _ (List.mem_map.2 ⟨y, hy, rfl⟩)
        have hy2 := bfill_valid (hv.2 y hy) ht0
        have hy3 := hy2.2.2.1
        have hy4 := hy2.1.2.1
        have cb : c ≤ 1000000000 := by omega
        rw [e1, if_pos rfl, wrap_id (x := c) ⟨by omega, by omega⟩, wrap_id (x := C + c) ⟨by omega, by omega⟩]
        refine ih cs _ a _ (C + c) (fun y h => ht y (List.mem_cons_of_mem _ h)) (fun y h => hc y (List.mem_cons_of_mem _ h)) (by omega) v1 hne' (by omega) (by omega) (by omega) ?_
        intro x h
        rw [e2] at h
        obtain ⟨y, hy, rfl⟩ := List.mem_map.1 h
        obtain ⟨z, hz, rfl⟩ := List.mem_map.1 hy
        obtain ⟨q1, q2⟩ := fx z hz
        refine ⟨q1, ?_⟩
        show (C + c) * z.f0.f2 + (((bfill t z).f1 - c) * z.f0.f2 + (bfill t z).f2) ≤ z.f0.f0 * z.f0.f2 + (mx now t - a) * z.f0.f1
        have q3 : C * z.f0.f2 + ((bfill t z).f1 * z.f0.f2 + (bfill t z).f2) ≤ z.f0.f0 * z.f0.f2 + (mx now t - a) * z.f0.f1 := q2
        rw [Int.add_mul, Int.sub_mul]
        omega
      · have e1 : (lTake l t c).2 = false := by unfold lTake; rw [if_neg g]
        have e2 : (lTake l t c).1 = l.map (bfill t) := by unfold lTake; rw [if_neg g]
        rw [e1, if_neg (by decide)]
        refine ih cs _ a _ C (fun y h => ht y (List.mem_cons_of_mem _ h)) (fun y h => hc y (List.mem_cons_of_mem _ h)) (by omega) v1 hne' (by omega) hC (by omega) ?_
        intro x h
        rw [e2] at h
        obtain ⟨z, hz, rfl⟩ := List.mem_map.1 h
        exact fx z hz
theorem lTake_f0 {l : List S32} {t c : Int} : (lTake l t c).1.map (fun x => x.f0) = l.map (fun x => x.f0) := by
  unfold lTake
  split
  · rw [List.map_map, List.map_map]; rfl
  · rw [List.map_map]; rfl
theorem lRun_f0 : ∀ (ts cs : List Int) (l : List S32), (lRun ts cs l).1.map (fun x => x.f0) = l.map (fun x => x.f0) := by
  intro ts
  induction ts with
  | nil => intro cs l; rw [lRun_nil]
  | cons t ts ih =>
    intro cs l
    cases cs with
    | nil => rfl
    | cons c cs => simp only [lRun]; rw [ih, lTake_f0]
theorem lRun_at : ∀ (ts cs : List Int) (l : List S32) (now : Int), ts.length = cs.length → (∀ x ∈ l, x.f3 = now) → ∀ x ∈ (lRun ts cs l).1, x.f3 = lastL now ts := by
  intro ts
  induction ts with
  | nil => intro cs l now _ h; rw [lRun_nil]; exact h
  | cons t ts ih =>
    intro cs l now hl h
    cases cs with
    | nil => simp at hl
    | cons c cs => simp only [lRun, lastL]; exact ih cs _ _ (by simpa using hl) (lTake_at h)
theorem alive04t_ : spigottop_alive04.f 100 = some true := by kernel_rfl
theorem alive04t (k : Nat) (hk : 100 ≤ k) : spigottop_alive04.f k = some true := up_ (fun k => spigottop_alive04.mono k) alive04t_ k hk
theorem greatest_loop (ts : List Int) (hn : ts.length ≤ 300) : ∀ (d j k : Nat) (now : Int), j + d = ts.length → d + 1 ≤ k → spigotref02_Greatest.l0 k now ts (j : Int) = some (lastL now (ts.drop j)) := by
  intro d
  induction d with
  | zero =>
    intro j k now hj hk
    obtain ⟨k, rfl⟩ : ∃ m, k = m + 1 := ⟨k - 1, by omega⟩
    simp only [spigotref02_Greatest.l0]
    rw [if_neg (by omega), List.drop_eq_nil_of_le (show ts.length ≤ j by omega)]
    rfl
  | succ d ih =>
    intro j k now hj hk
    obtain ⟨k, rfl⟩ : ∃ m, k = m + 1 := ⟨k - 1, by omega⟩
    have h1 : j < ts.length := by omega
    simp only [spigotref02_Greatest.l0]
    rw [if_pos (by omega), if_pos (by omega), rd_at h1, wj (by omega), drop_cons h1]
    simp only [lastL]
    by_cases c : ts[j] > now
    · have e : mx now ts[j] = ts[j] := by unfold mx; split <;> omega
      rw [if_pos c, e, ih (j + 1) k _ (by omega) (by omega)]
    · have e : mx now ts[j] = now := by unfold mx; split <;> omega
      rw [if_neg c, e, ih (j + 1) k _ (by omega) (by omega)]
theorem greatest_row (ts : List Int) (hn : ts.length ≤ 300) (now : Int) (k : Nat) (hk : 302 ≤ k) : spigotref02_Greatest.f k now ts = some (lastL now ts) := by
  unfold spigotref02_Greatest.f
  have := greatest_loop ts hn ts.length 0 k now (by omega) (by omega)
  rw [List.drop_zero] at this
  exact this
theorem since_ok {a t : Int} (ha : U64 a) (ht : U64 t) (h : a ≤ t) : clock_Since.f a t = some (t - a, 0) := by
  obtain ⟨a0, a1⟩ := ha
  obtain ⟨t0, t1⟩ := ht
  unfold clock_Since.f
  rw [if_neg (by omega), wrap_id ⟨by omega, by omega⟩]
theorem bounded_ok {a t C : Int} {x : S32} (hv : bV x) (ha : U64 a) (h : tInv a t C x) (hat : a ≤ t) (hC : 0 ≤ C) (hC1 : C ≤ 1000000000000) (k : Nat) (hk : 40 ≤ k) :
    spigottop_bounded04.f k x.f0.f0 x.f0.f1 x.f0.f2 a t x.f0.f0 x.f0.f1 x.f0.f2 x.f1 x.f2 x.f3 C = some true := by
  obtain ⟨k, rfl⟩ : ∃ m, k = m + 4 := ⟨k - 4, by omega⟩
  obtain ⟨h1, h2⟩ := h
  obtain ⟨b, r, p⟩ : ∃ b r p, b = x.f0.f0 ∧ r = x.f0.f1 ∧ p = x.f0.f2 := ⟨_, _, _, rfl, rfl, rfl⟩
  have hv' := hv
  have am := amt_le hv
  obtain ⟨⟨b0, b1, r0, r1, p0, p1⟩, l0, l1, q0, q1, _, ht⟩ := hv'
  rw [h1] at ht
  obtain ⟨a0, a1⟩ := ha
  obtain ⟨t0, t1⟩ := ht
  have ub : U64 x.f0.f0 := ⟨by omega, by omega⟩
  have ur : U64 x.f0.f1 := ⟨by omega, by omega⟩
  have up : U64 x.f0.f2 := ⟨by omega, by omega⟩
  have ul : U64 x.f1 := ⟨by omega, by omega⟩
  have uq : U64 x.f2 := ⟨by omega, by omega⟩
  have uC : U64 C := ⟨by omega, by omega⟩
  have un : U64 (t - a) := ⟨by omega, by omega⟩
  have m1 := mul_bd (by omega : 0 ≤ x.f0.f0) b1 (by omega : 0 ≤ x.f0.f2) p1
  have m2 := mul_bd (by omega : 0 ≤ t - a) (by omega : t - a ≤ 18446744073709551615) r0 r1
  have m3 := mul_bd l0 (by omega : x.f1 ≤ 1000000000) (by omega : 0 ≤ x.f0.f2) p1
  have m4 := mul_bd hC hC1 (by omega : 0 ≤ x.f0.f2) p1
  unfold spigottop_bounded04.f
  rw [since_ok ⟨a0, a1⟩ ⟨t0, t1⟩ hat, wrap_id ub, wrap_id up, wrap_id ur, wrap_id ul, wrap_id uq, wide_Mul_ok ub up]
  simp only [Option.bind_some]
  rw [wide_Mul_ok un ur]
  simp only [Option.bind_some]
  rw [wide_Add_ok (U64_hi m1.1 (by omega)) U64_lo (U64_hi m2.1 (by omega)) U64_lo (by rw [wv_of, wv_of]; omega), wv_of, wv_of]
  simp only [Option.bind_some]
  rw [wide_Mul_ok ul up]
  simp only [Option.bind_some]
  rw [wide_Of_ok]
  simp only [Option.bind_some]
  rw [wide_Add_ok (U64_hi m3.1 (by omega)) U64_lo U64_zero uq (by rw [wv_of, wv_zero]; omega), wv_of, wv_zero]
  simp only [Option.bind_some]
  rw [wide_Mul_ok uC up]
  simp only [Option.bind_some]
  rw [wide_Add_ok (U64_hi (by omega) (by omega)) U64_lo (U64_hi m4.1 (by omega)) U64_lo (by rw [wv_of, wv_of]; omega), wv_of, wv_of]
  simp only [Option.bind_some, ↓reduceIte]
  simp only [spigottop_bounded04.j0]
  rw [if_neg (by decide), if_pos h1, wide_Cmp_ok k U64_lo U64_lo, wv_of, wv_of]
  simp only [Option.bind_some]
  have c1 : ¬ wcmp (x.f1 * x.f0.f2 + x.f2 + C * x.f0.f2) (x.f0.f0 * x.f0.f2 + (t - a) * x.f0.f1) > 0 := fun h => by have := wcmp_pos.1 h; omega
  have c2 : ¬ wcmp (x.f1 * x.f0.f2 + x.f2) (x.f0.f0 * x.f0.f2) > 0 := fun h => by have := wcmp_pos.1 h; omega
  rw [if_pos (by omega), wide_Cmp_ok k U64_lo U64_lo, wv_of, wv_of]
  simp only [Option.bind_some]
  rw [decide_eq_true (by omega)]
theorem mx_max (a b : Int) : a ≤ mx a b ∧ b ≤ mx a b ∧ (mx a b = a ∨ mx a b = b) := by unfold mx; split <;> omega
theorem lWait_spec (c : Int) : ∀ (l : List S32) (n : Int), n ≤ lWait l c n ∧ (∀ x ∈ l, bwait c x ≤ lWait l c n) ∧ (lWait l c n = n ∨ ∃ x ∈ l, bwait c x = lWait l c n) := by
  intro l
  induction l with
  | nil => intro n; exact ⟨Int.le_refl _, fun x hx => (by cases hx), Or.inl rfl⟩
  | cons y l ih =>
    intro n
    have e : lWait (y :: l) c n = lWait l c (mx n (bwait c y)) := rfl
    obtain ⟨m1, m2, m3⟩ := mx_max n (bwait c y)
    obtain ⟨i1, i2, i3⟩ := ih (mx n (bwait c y))
    rw [e]
    refine ⟨by omega, ?_, ?_⟩
    · intro x hx
      rcases List.mem_cons.1 hx with g | g
      · rw [g]
        omega
      · exact i2 x g
    · rcases i3 with g | ⟨x, hx, g⟩
      · rcases m3 with h | h
        · exact Or.inl (by omega)
        · exact Or.inr ⟨y, List.mem_cons_self, by omega⟩
      · exact Or.inr ⟨x, List.mem_cons_of_mem _ hx, g⟩
theorem holds_fill {l : List S32} {c t : Int} : lHolds (l.map (bfill t)) c = true ↔ ∀ x ∈ l, c ≤ fL x.f0.f0 x.f0.f1 x.f0.f2 x.f1 x.f2 x.f3 t := by
  rw [lHolds_iff]
  constructor
  · intro h x hx
    exact h _ (List.mem_map.2 ⟨x, hx, rfl⟩)
  · intro h y hy
    obtain ⟨x, hx, rfl⟩ := List.mem_map.1 hy
    exact h x hx
theorem map_lV {l : List S32} {t : Int} (hv : lV l) (ht : U64 t) : lV (l.map (bfill t)) := ⟨by rw [List.length_map]; exact hv.1, map_valid ht hv.2⟩
theorem waited_ok {l : List S32} {a : Int} (hv : lV l) (hu : U64 a) (ha : ∀ x ∈ l, x.f3 = a) (k : Nat) (hk : 300 ≤ k) : spigottop_waited04.f k l a = some true := by
  obtain ⟨k, rfl⟩ : ∃ m, k = m + 2 := ⟨k - 2, by omega⟩
  obtain ⟨a0, a1⟩ := hu
  have h0 : (0 : Int) ≤ 2 := by decide
  have hc : I64 2 := ⟨by decide, by decide⟩
  obtain ⟨w1, w2, w3⟩ := lWait_spec 2 l 0
  have um : U64 18446744073709551615 := ⟨by decide, by decide⟩
  have spec : ∀ x ∈ l, _ := fun x hx => wait_spec (c := 2) (hv.2 x hx) h0
  have ebw : ∀ x, bwait 2 x = waitOf x.f0.f0 x.f0.f1 x.f0.f2 x.f1 x.f2 x.f3 2 := fun x => rfl
  unfold spigottop_waited04.f
  rw [wait_row hv h0 hc (k + 2) (by omega)]
  simp only [Option.bind_some, ↓reduceIte]
  by_cases n0 : lWait l 2 0 = 18446744073709551615
  · have fin : ∀ y e, spigottop_waited04.j0 (k + 2) l (lWait l 2 0) y e true = some true := by
      intro y e
      simp only [spigottop_waited04.j0, ↓reduceIte]
      rw [Refill_row hv um (k + 1) (by omega)]
      simp only [Option.bind_some]
      rw [Holds_row (map_lV hv um) h0 (k + 1) (by omega)]
      simp only [Option.bind_some, ↓reduceIte]
      rcases w3 with g | ⟨x, hx, g⟩
      · omega
      · have h := ((spec x hx).2.1 (by have e := ebw x; omega)).2 _ um (by rw [ha x hx]; omega)
        rw [if_neg (fun q => by have := holds_fill.1 q x hx; omega)]
    unfold clock_After.f
    by_cases g : IntKind.u64.wrap (a + lWait l 2 0) < a
    · rw [if_pos g]
      simp only [Option.bind_some]
      rw [if_pos n0]
      exact fin _ _
    · rw [if_neg g]
      simp only [Option.bind_some]
      rw [if_pos n0]
      exact fin _ _
  · have fin : ∀ x ∈ l, bwait 2 x ≠ 18446744073709551615 := by
      intro x hx e
      have h1 := w2 x hx
      rcases w3 with g | ⟨z, hz, g⟩
      · omega
      · have e' := ebw z
        have h2 := (spec z hz).2.2 (by omega)
        have := h2.1
        have z3 := ha z hz
        omega
    have hle : lWait l 2 0 ≤ 18446744073709551615 - a := by
      rcases w3 with g | ⟨x, hx, g⟩
      · omega
      · have h2 := (spec x hx).2.2 (by rw [← ebw]; exact fin x hx)
        have := h2.1
        have x3 := ha x hx
        have := ebw x
        omega
    have ut : U64 (a + lWait l 2 0) := ⟨by omega, by omega⟩
    have key : ∀ t, U64 t → a ≤ t → (lHolds (l.map (bfill t)) 2 = true ↔ lWait l 2 0 ≤ t - a) := by
      intro t ht hat
      rw [holds_fill]
      constructor
      · intro h
        rcases w3 with g | ⟨x, hx, g⟩
        · omega
        · have h2 := ((spec x hx).2.2 (by rw [← ebw]; exact fin x hx)).2.2.2.2 t ht (by rw [ha x hx]; exact hat)
          have := h2.1 (h x hx)
          have x3 := ha x hx
          have := ebw x
          omega
      · intro h x hx
        have h2 := ((spec x hx).2.2 (by rw [← ebw]; exact fin x hx)).2.2.2.2 t ht (by rw [ha x hx]; exact hat)
        refine h2.2 ?_
        have := w2 x hx
        have x3 := ha x hx
        have := ebw x
        omega
    have tk : ∀ t, lHolds (l.map (bfill t)) 2 = true → (lTake l t 2).2 = true := fun t h => by unfold lTake; rw [if_pos h]
    have tn : ∀ t, ¬ lHolds (l.map (bfill t)) 2 = true → (lTake l t 2).2 = false := fun t h => by unfold lTake; rw [if_neg h]
    unfold clock_After.f
    rw [wrap_id ut, if_neg (by omega)]
    simp only [Option.bind_some]
    rw [if_neg n0]
    simp only [spigottop_waited04.j0]
    rw [if_neg (by decide), Take_row hv ut h0 (k + 1) (by omega)]
    simp only [Option.bind_some, ↓reduceIte]
    rw [tk _ ((key _ ut (by omega)).2 (by omega))]
    simp only [spigottop_waited04.j1]
    rw [if_neg (by decide)]
    by_cases z : lWait l 2 0 = 0
    · rw [if_pos z]
    · have ut1 : U64 (a + lWait l 2 0 - 1) := ⟨by omega, by omega⟩
      rw [if_neg z, wrap_id ut1, Take_row hv ut1 h0 k (by omega)]
      simp only [Option.bind_some, ↓reduceIte]
      rw [tn _ (fun q => by have := (key _ ut1 (by omega)).1 q; omega)]
      rfl
def fullB (a : Int) (m : S30) : S32 := ⟨m, m.f0, 0, a⟩
theorem top_l2 {ls : List S30} {a t C : Int} {en : List S32} (he : en.map (fun x => x.f0) = ls) (hv : lV en) (ha : U64 a) (hu : U64 t) (hat : a ≤ t) (h3 : ∀ x ∈ en, x.f3 = t) (hi : en ≠ [] → 0 ≤ C ∧ C ≤ 1000000000000 ∧ ∀ x ∈ en, tInv a t C x) :
    ∀ (d j k : Nat), j + d = en.length → d + 310 ≤ k → spigottop_TopBuckets.l2 k ls a en C t (j : Int) = some true := by
  intro d
  have h8 := hv.1
  have hlen : ls.length = en.length := by rw [← he, List.length_map]
  induction d with
  | zero =>
    intro j k hj hk
    obtain ⟨k, rfl⟩ : ∃ m, k = m + 1 := ⟨k - 1, by omega⟩
    simp only [spigottop_TopBuckets.l2]
    rw [if_neg (by omega), waited_ok hv hu h3 k (by omega)]
    rfl
  | succ d ih =>
    intro j k hj hk
    obtain ⟨k, rfl⟩ : ∃ m, k = m + 1 := ⟨k - 1, by omega⟩
    have h1 : j < en.length := by omega
    have h2 : j < ls.length := by omega
    have hm := List.getElem_mem h1
    obtain ⟨c0, c1, ci⟩ := hi (fun e => by rw [e] at h1; simp at h1)
    have el : rd_T30 ls (j : Int) = en[j].f0 := by
      unfold rd_T30
      rw [List.getD_eq_getElem?_getD, Int.toNat_natCast, List.getElem?_eq_getElem h2]
      simp only [← he, List.getElem_map, Option.getD_some]
    simp only [spigottop_TopBuckets.l2]
    rw [if_pos (by omega), if_pos (by omega), if_pos (by omega), el, rdB_at h1, bounded_ok (hv.2 _ hm) ha (ci _ hm) hat c0 c1 k (by omega)]
    simp only [Option.bind_some, ↓reduceIte]
    rw [wj (by omega)]
    exact ih (j + 1) k (by omega) (by omega)
theorem top_l1 {ls : List S30} {a : Int} {rs cs : List Int} {ok : List Bool} {en : List S32} (hr : rs.length ≤ 300) (hl : ok.length = cs.length) (hn : cs.length ≤ 300) :
    ∀ (d j k : Nat) (C : Int), j + d = cs.length → d + 700 ≤ k → (∀ k', 600 ≤ k' → spigottop_TopBuckets.l2 k' ls a en (chg (ok.drop j) (cs.drop j) C) (lastL a rs) 0 = some true) → spigottop_TopBuckets.l1 k ls a rs cs ok en C (j : Int) = some true := by
  intro d
  induction d with
  | zero =>
    intro j k C hj hk h
    obtain ⟨k, rfl⟩ : ∃ m, k = m + 1 := ⟨k - 1, by omega⟩
    have e : chg (ok.drop j) (cs.drop j) C = C := by rw [List.drop_eq_nil_of_le (show ok.length ≤ j by omega)]; rfl
    rw [e] at h
    simp only [spigottop_TopBuckets.l1]
    rw [if_neg (by omega), greatest_row rs hr a k (by omega)]
    simp only [Option.bind_some]
    exact h k (by omega)
  | succ d ih =>
    intro j k C hj hk h
    obtain ⟨k, rfl⟩ : ∃ m, k = m + 1 := ⟨k - 1, by omega⟩
    have h1 : j < cs.length := by omega
    have h2 : j < ok.length := by omega
    have eo : rdOf false ok (j : Int) = ok[j] := by
      unfold rdOf
      rw [List.getD_eq_getElem?_getD, Int.toNat_natCast, List.getElem?_eq_getElem h2]
      rfl
    rw [drop_cons h1, drop_cons h2] at h
    simp only [chg] at h
    simp only [spigottop_TopBuckets.l1]
    rw [if_pos (by omega), if_pos (by omega), if_pos (by omega), eo, rd_at h1, wj (by omega)]
    by_cases c : ok[j] = true
    · rw [if_pos c] at h
      rw [if_pos c]
      exact ih (j + 1) k _ (by omega) (by omega) h
    · rw [if_neg c] at h
      rw [if_neg c]
      exact ih (j + 1) k _ (by omega) (by omega) h
theorem top_l0 {ls : List S30} {a : Int} {rs cs : List Int} (h8 : ls.length ≤ 8) (ha : U64 a) (ht : ∀ y ∈ rs, U64 y) (hc : ∀ y ∈ cs, 0 ≤ y) (hi : ∀ y ∈ cs, I64 y) (hn : rs.length ≤ 20) (hl : cs.length = rs.length) :
    ∀ (d j k : Nat), j + d = ls.length → d + 1000 ≤ k → (∀ m ∈ ls.take j, VL m.f0 m.f1 m.f2) → spigottop_TopBuckets.l0 k ls a rs cs ((ls.take j).map (fullB a)) (j : Int) = some true := by
  intro d
  induction d with
  | zero =>
    intro j k hj hk hm
    obtain ⟨k, rfl⟩ : ∃ m, k = m + 1 := ⟨k - 1, by omega⟩
    rw [List.take_of_length_le (by omega)] at hm ⊢
    have hv : lV (ls.map (fullB a)) := ⟨by rw [List.length_map]; exact h8, fun x hx => by
      obtain ⟨m, h, rfl⟩ := List.mem_map.1 hx
      exact full_valid (hm m h) ha⟩
    have h3 : ∀ x ∈ ls.map (fullB a), x.f3 = a := fun x hx => by
      obtain ⟨m, h, rfl⟩ := List.mem_map.1 hx
      rfl
    have hcl := clampL_len rs a
    have hrc := lRun_clamp rs cs _ a h3
    obtain ⟨v1, v2⟩ := lRun_valid rs cs _ ht hc hv
    have hok := lRun_len rs cs (ls.map (fullB a)) hl.symm
    have hlast := lastL_spec rs a ha ht
    simp only [spigottop_TopBuckets.l0]
    unfold clock_Clamps.f
    rw [if_neg (by omega), if_neg (by omega), Run_row hv ht hc hi (by omega) hl k (by omega)]
    simp only [Option.bind_some]
    rw [Run_row hv (clampL_U64 rs a ha ht) hc hi (by omega) (by omega) k (by omega), hrc]
    simp only [Option.bind_some, ↓reduceIte]
    have h9 := v1.1
    rw [same_self _ (by omega) k (by omega)]
    simp only [Option.bind_some, ↓reduceIte]
    rw [sameb_self _ (by omega) k (by omega)]
    simp only [Option.bind_some, ↓reduceIte]
    rw [if_pos (by omega), if_pos (by omega)]
    refine top_l1 (j := 0) (by omega) (by omega) (by omega) cs.length k 0 (by omega) (by omega) fun k' hk' => ?_
    rw [List.drop_zero, List.drop_zero]
    refine top_l2 (j := 0) ?_ v1 ha hlast.2 hlast.1 (lRun_at rs cs _ a hl.symm h3) (fun hne => ?_) (lRun rs cs (ls.map (fullB a))).1.length k' (by omega) (by omega)
    · rw [lRun_f0, List.map_map]
      exact List.map_id' _
    · have hne' : ls.map (fullB a) ≠ [] := fun e => hne (List.length_eq_zero_iff.1 (by rw [v2, e]; rfl))
      have t := top_run rs cs (ls.map (fullB a)) a a 0 ht hc hl.symm hv hne' (Int.le_refl _) (Int.le_refl _) (by omega) (fun x hx => by
        obtain ⟨m, h, rfl⟩ := List.mem_map.1 hx
        refine ⟨rfl, ?_⟩
        show 0 * m.f2 + (m.f0 * m.f2 + 0) ≤ m.f0 * m.f2 + (a - a) * m.f1
        rw [Int.sub_self]
        omega)
      exact ⟨t.2.1, t.2.2, t.1⟩
  | succ d ih =>
    intro j k hj hk hm
    obtain ⟨k, rfl⟩ : ∃ m, k = m + 1 := ⟨k - 1, by omega⟩
    have h1 : j < ls.length := by omega
    have el : rd_T30 ls (j : Int) = ls[j] := by
      unfold rd_T30
      rw [List.getD_eq_getElem?_getD, Int.toNat_natCast, List.getElem?_eq_getElem h1]
      rfl
    simp only [spigottop_TopBuckets.l0]
    rw [if_pos (by omega), if_pos (by omega), el]
    by_cases g : VL ls[j].f0 ls[j].f1 ls[j].f2
    · rw [Full_ok g]
      simp only [Option.bind_some, ↓reduceIte]
      have hlen : ((ls.take j).map (fullB a)).length ≤ 8 := by rw [List.length_map, List.length_take]; omega
      rw [if_pos (by omega), wj (by omega)]
      have e : (ls.take j).map (fullB a) ++ [⟨⟨ls[j].f0, ls[j].f1, ls[j].f2⟩, ls[j].f0, 0, a⟩] = (ls.take (j + 1)).map (fullB a) := by
        rw [List.take_add_one, List.getElem?_eq_getElem h1, Option.toList_some, List.map_append]
        rfl
      rw [e]
      refine ih (j + 1) k (by omega) (by omega) fun m hmm => ?_
      rw [List.take_add_one, List.getElem?_eq_getElem h1, Option.toList_some] at hmm
      rcases List.mem_append.1 hmm with q | q
      · exact hm m q
      · rw [List.mem_singleton.1 q]
        exact g
    · rw [Full_bad g]
      simp only [Option.bind_some]
      rw [if_neg (by decide)]
      rfl
theorem TopBuckets_pure (ls : List S30) (a : Int) (rs cs : List Int) (_ : ls.length ≤ maxLen) (_ : ∀ m ∈ ls, I64 m.f0 ∧ I64 m.f1 ∧ I64 m.f2) (ha : U64 a) (_ : rs.length ≤ maxLen) (ht : ∀ y ∈ rs, U64 y) (hm : cs.length ≤ maxLen) (hi : ∀ y ∈ cs, I64 y) : ∃ k, spigottop_TopBuckets.f k ls a rs cs = some true := by
  refine ⟨cs.length + 1200, ?_⟩
  have fin : spigottop_TopBuckets.j0 (cs.length + 1200) ls a rs cs true = some true := by simp only [spigottop_TopBuckets.j0, ↓reduceIte]
  unfold spigottop_TopBuckets.f
  by_cases c1 : (ls.length : Int) > 8
  · rw [if_pos c1]
    exact fin
  · rw [if_neg c1]
    by_cases c2 : (rs.length : Int) > 20
    · rw [if_pos c2]
      exact fin
    · rw [if_neg c2]
      obtain ⟨b, e, hb⟩ := costs_row rs cs (by unfold maxLen at hm; omega) (cs.length + 1200) (by omega)
      rw [e]
      simp only [Option.bind_some]
      cases b with
      | false => exact fin
      | true =>
        obtain ⟨hl, hc⟩ := hb.1 rfl
        simp only [spigottop_TopBuckets.j0]
        rw [if_neg (by decide), alive04t _ (by omega)]
        simp only [Option.bind_some, ↓reduceIte]
        have := top_l0 (ls := ls) (a := a) (rs := rs) (cs := cs) (by omega) ha ht hc hi (by omega) hl ls.length 0 (cs.length + 1199) (by omega) (by omega) (fun m hmm => by simp at hmm)
        exact this
end Go.Proofs.Ytiifhbaabnpkeaa.X
