/- WaitLater, and what it needs. -/
import Derived.Test.YtfdpcnkghmmobaaX0
import Derived.Test.YtfdpcnkghmmobaaX3
import Derived.Test.YtfdpcnkghmmobaaX4
import Derived.Test.YtfdpcnkghmmobaaX5
import Derived.Test.YtfdpcnkghmmobaaX6
import Derived.Test.YtfdpcnkghmmobaaX7
import Derived.Test.YtfdpcnkghmmobaaX8
import Derived.Test.YtfdpcnkghmmobaaX9
import Derived.Test.YtfdpcnkghmmobaaX10
import Derived.Test.YtfdpcnkghmmobaaX11
import Derived.Test.YtfdpcnkghmmobaaX12
import Derived.Test.YtfdpcnkghmmobaaX13
import Derived.Test.YtfdpcnkghmmobaaX15
import Derived.Test.YtfdpcnkghmmobaaX16
import Derived.Test.YtfdpcnkghmmobaaX19
import Derived.Test.YtfdpcnkghmmobaaX20
import Derived.Test.YtfdpcnkghmmobaaX21
import Derived.Test.YtfdpcnkghmmobaaX29
import Derived.Test.YtfdpcnkghmmobaaX30
import Derived.Test.YtfdpcnkghmmobaaX31
import Derived.Test.YtfdpcnkghmmobaaX32
import Derived.Test.YtfdpcnkghmmobaaX33
import Derived.Test.YtfdpcnkghmmobaaX34
import Derived.Test.YtfdpcnkghmmobaaX36
import Derived.Test.YtfdpcnkghmmobaaX37
import Derived.Test.YtfdpcnkghmmobaaX38
import Derived.Test.YtfdpcnkghmmobaaMath
namespace Go.Proofs.Ytfdpcnkghmmobaa.X
open Go.RowKit Go.Proofs.YtfdpcnkghmmobaaW.PrintWords Go.Proofs.YtfdpcnkghmmobaaW.PrintLast Go.Proofs.YtfdpcnkghmmobaaW.PrintMore
set_option linter.unusedVariables false
set_option linter.unusedSimpArgs false

theorem wj {j : Nat} (h : j < 9223372036854775807) : wrap64 ((j : Int) + 1) = ((j + 1 : Nat) : Int) := by unfold wrap64; omega
theorem rd_at {l : List Int} {j : Nat} (h : j < l.length) : rd l (j : Int) = l[j] := by
  unfold rd
  rw [List.getD_eq_getElem?_getD, Int.toNat_natCast, List.getElem?_eq_getElem h]
  rfl
/-- What is written at place j, when what stands ahead of j has been written. -/
theorem set_walk {α : Type} (f : α → α) (l : List α) {j : Nat} (h : j < l.length) : ((l.map f).take j ++ l.drop j).set j (f l[j]) = (l.map f).take (j + 1) ++ l.drop (j + 1) := by
  have h1 : ((l.map f).take j).length = j := by rw [List.length_take, List.length_map]; omega
  rw [List.set_append_right _ _ (by omega), h1, Nat.sub_self, List.drop_eq_getElem_cons h, List.set_cons_zero]
  have h2 : (l.map f).take (j + 1) = (l.map f).take j ++ [f l[j]] := by
    rw [List.take_add_one, List.getElem?_eq_getElem (by rw [List.length_map]; exact h), List.getElem_map]
    rfl
  rw [h2, List.append_assoc]
  rfl
theorem walk_get {α : Type} (f : α → α) (l : List α) {j : Nat} (h : j < l.length) (h' : j < ((l.map f).take j ++ l.drop j).length) : ((l.map f).take j ++ l.drop j)[j] = l[j] := by
  have h1 : ((l.map f).take j).length = j := by rw [List.length_take, List.length_map]; omega
  rw [List.getElem_append_right (by omega)]
  simp [h1]
theorem walk_len {α : Type} (f : α → α) (l : List α) (j : Nat) (h : j ≤ l.length) : ((l.map f).take j ++ l.drop j).length = l.length := by
  rw [List.length_append, List.length_take, List.length_map, List.length_drop]
  omega
/-- From the table: how many bits a byte needs. -/
theorem tab_byte (b : Nat) (hb : b < 256) (h0 : 0 < b) : ∃ t : Nat, 1 ≤ t ∧ t ≤ 8 ∧ 2 ^ (t - 1) ≤ b ∧ b < 2 ^ t ∧ bt (⟨#[0, 1, 2, 2, 3, 3, 3, 3, 4, 4, 4, 4, 4, 4, 4, 4, 5, 5, 5, 5, 5, 5, 5, 5, 5, 5, 5, 5, 5, 5, 5, 5, 6, 6, 6, 6, 6, 6, 6, 6, 6, 6, 6, 6, 6, 6, 6, 6, 6, 6, 6, 6, 6, 6, 6, 6, 6, 6, 6, 6, 6, 6, 6, 6, 7, 7, 7, 7, 7, 7, 7, 7, 7, 7, 7, 7, 7, 7, 7, 7, 7, 7, 7, 7, 7, 7, 7, 7, 7, 7, 7, 7, 7, 7, 7, 7, 7, 7, 7, 7, 7, 7, 7, 7, 7, 7, 7, 7, 7, 7, 7, 7, 7, 7, 7, 7, 7, 7, 7, 7, 7, 7, 7, 7, 7, 7, 7, 7, 8, 8, 8, 8, 8, 8, 8, 8, 8, 8, 8, 8, 8, 8, 8, 8, 8, 8, 8, 8, 8, 8, 8, 8, 8, 8, 8, 8, 8, 8, 8, 8, 8, 8, 8, 8, 8, 8, 8, 8, 8, 8, 8, 8, 8, 8, 8, 8, 8, 8, 8, 8, 8, 8, 8, 8, 8, 8, 8, 8, 8, 8, 8, 8, 8, 8, 8, 8, 8, 8, 8, 8, 8, 8, 8, 8, 8, 8, 8, 8, 8, 8, 8, 8, 8, 8, 8, 8, 8, 8, 8, 8, 8, 8, 8, 8, 8, 8, 8, 8, 8, 8, 8, 8, 8, 8, 8, 8, 8, 8, 8, 8, 8, 8, 8, 8, 8, 8, 8, 8, 8, 8, 8, 8, 8, 8, 8, 8]⟩ : ByteArray) (b : Int) = (t : Int) := by
  have h : ∀ b : Fin 256, 0 < b.val → ∃ t : Fin 9, 1 ≤ t.val ∧ 2 ^ (t.val - 1) ≤ b.val ∧ b.val < 2 ^ t.val ∧ bt (⟨#[0, 1, 2, 2, 3, 3, 3, 3, 4, 4, 4, 4, 4, 4, 4, 4, 5, 5, 5, 5, 5, 5, 5, 5, 5, 5, 5, 5, 5, 5, 5, 5, 6, 6, 6, 6, 6, 6, 6, 6, 6, 6, 6, 6, 6, 6, 6, 6, 6, 6, 6, 6, 6, 6, 6, 6, 6, 6, 6, 6, 6, 6, 6, 6, 7, 7, 7, 7, 7, 7, 7, 7, 7, 7, 7, 7, 7, 7, 7, 7, 7, 7, 7, 7, 7, 7, 7, 7, 7, 7, 7, 7, 7, 7, 7, 7, 7, 7, 7, 7, 7, 7, 7, 7, 7, 7, 7, 7, 7, 7, 7, 7, 7, 7, 7, 7, 7, 7, 7, 7, 7, 7, 7, 7, 7, 7, 7, 7, 8, 8, 8, 8, 8, 8, 8, 8, 8, 8, 8, 8, 8, 8, 8, 8, 8, 8, 8, 8, 8, 8, 8, 8, 8, 8, 8, 8, 8, 8, 8, 8, 8, 8, 8, 8, 8, 8, 8, 8, 8, 8, 8, 8, 8, 8, 8, 8, 8, 8, 8, 8, 8, 8, 8, 8, 8, 8, 8, 8, 8, 8, 8, 8, 8, 8, 8, 8, 8, 8, 8, 8, 8, 8, 8, 8, 8, 8, 8, 8, 8, 8, 8, 8, 8, 8, 8, 8, 8, 8, 8, 8, 8, 8, 8, 8, 8, 8, 8, 8, 8, 8, 8, 8, 8, 8, 8, 8, 8, 8, 8, 8, 8, 8, 8, 8, 8, 8, 8, 8, 8, 8, 8, 8, 8, 8, 8, 8]⟩ : ByteArray) (b.val : Int) = (t.val : Int) := by decide +kernel
  obtain ⟨t, h1, h2, h3, h4⟩ := h ⟨b, hb⟩ h0
  exact ⟨t.val, h1, by omega, h2, h3, h4⟩
/-- How many bits a number needs, behind a shift by m. -/
theorem bits_shift {x b : Int} {t m : Nat} (hb : b = x / 2 ^ m) (h1 : 1 ≤ t) (h2 : (2 : Int) ^ (t - 1) ≤ b) (h3 : b < 2 ^ t) : (2 : Int) ^ (t + m - 1) ≤ x ∧ x < 2 ^ (t + m) := by
  subst hb
  obtain ⟨d1, d2⟩ := div_bd (n := x) (two_pow_pos m)
  have e1 := two_pow_split (t - 1) m (t + m - 1) (by omega)
  have e2 := two_pow_split t m (t + m) rfl
  have k1 := Int.mul_le_mul_of_nonneg_right h2 (Int.le_of_lt (two_pow_pos m))
  have k2 : x / 2 ^ m * 2 ^ m + 2 ^ m ≤ 2 ^ t * 2 ^ m := by
    have : (x / 2 ^ m + 1) * 2 ^ m ≤ 2 ^ t * 2 ^ m := Int.mul_le_mul_of_nonneg_right (by omega) (Int.le_of_lt (two_pow_pos m))
    rw [Int.add_mul, Int.one_mul] at this
    exact this
  omega
set_option maxRecDepth 100000 in
theorem Len64_j0 (k : Nat) (x o : Int) (m : Nat) (ho : o = m) (hm : m ≤ 32) (h0 : 0 < x) (h1 : x < 4294967296) :
    ∃ t : Nat, 1 ≤ t ∧ t ≤ 32 ∧ bits_Len64.j0 (k + 1) x o = some ((t + m : Nat) : Int) ∧ (2 : Int) ^ (t - 1) ≤ x ∧ x < 2 ^ t := by
  rw [bits_Len64.j0]
  have key : ∀ (b : Int) (s : Nat), b = x / 2 ^ s → 0 < b → b < 256 → s ≤ 24 → ∃ t : Nat, 1 ≤ t ∧ t ≤ 8 ∧ bt (⟨#[0, 1, 2, 2, 3, 3, 3, 3, 4, 4, 4, 4, 4, 4, 4, 4, 5, 5, 5, 5, 5, 5, 5, 5, 5, 5, 5, 5, 5, 5, 5, 5, 6, 6, 6, 6, 6, 6, 6, 6, 6, 6, 6, 6, 6, 6, 6, 6, 6, 6, 6, 6, 6, 6, 6, 6, 6, 6, 6, 6, 6, 6, 6, 6, 7, 7, 7, 7, 7, 7, 7, 7, 7, 7, 7, 7, 7, 7, 7, 7, 7, 7, 7, 7, 7, 7, 7, 7, 7, 7, 7, 7, 7, 7, 7, 7, 7, 7, 7, 7, 7, 7, 7, 7, 7, 7, 7, 7, 7, 7, 7, 7, 7, 7, 7, 7, 7, 7, 7, 7, 7, 7, 7, 7, 7, 7, 7, 7, 8, 8, 8, 8, 8, 8, 8, 8, 8, 8, 8, 8, 8, 8, 8, 8, 8, 8, 8, 8, 8, 8, 8, 8, 8, 8, 8, 8, 8, 8, 8, 8, 8, 8, 8, 8, 8, 8, 8, 8, 8, 8, 8, 8, 8, 8, 8, 8, 8, 8, 8, 8, 8, 8, 8, 8, 8, 8, 8, 8, 8, 8, 8, 8, 8, 8, 8, 8, 8, 8, 8, 8, 8, 8, 8, 8, 8, 8, 8, 8, 8, 8, 8, 8, 8, 8, 8, 8, 8, 8, 8, 8, 8, 8, 8, 8, 8, 8, 8, 8, 8, 8, 8, 8, 8, 8, 8, 8, 8, 8, 8, 8, 8, 8, 8, 8, 8, 8, 8, 8, 8, 8, 8, 8, 8, 8, 8, 8]⟩ : ByteArray) b = (t : Int) ∧ (2 : Int) ^ (t + s - 1) ≤ x ∧ x < 2 ^ (t + s) := by
    intro b s hb b0 b1 hs
    obtain ⟨c, rfl⟩ := Int.eq_ofNat_of_zero_le (Int.le_of_lt b0)
    obtain ⟨t, t1, t2, t3, t4, t5⟩ := tab_byte c (by omega) (by omega)
    obtain ⟨e1, e2⟩ := bits_shift (x := x) (b := c) (t := t) (m := s) hb t1 (by exact_mod_cast t3) (by exact_mod_cast t4)
    exact ⟨t, t1, t2, t5, e1, e2⟩
  by_cases c1 : x ≥ 65536
  · rw [if_pos c1]
    by_cases c2 : x / 65536 ≥ 256
    · rw [if_pos c2, if_pos (by omega), if_pos (by omega)]
      obtain ⟨t, t1, t2, t3, t4, t5⟩ := key (x / 65536 / 256 % 256) 24 (by rw [Int.emod_eq_of_lt (by omega) (by omega), show ((2 : Int) ^ 24) = 16777216 from rfl]; omega) (by omega) (by omega) (by omega)
      refine ⟨t + 24, by omega, by omega, ?_, t4, t5⟩
      rw [t3, ho, wrap64_id (x := (m : Int) + 16) (by omega) (by omega), wrap64_id (x := (m : Int) + 16 + 8) (by omega) (by omega), wrap64_id (x := (t : Int)) (by omega) (by omega), wrap64_id (by omega) (by omega)]
      congr 1
      omega
    · rw [if_neg c2, if_pos (by omega), if_pos (by omega)]
      obtain ⟨t, t1, t2, t3, t4, t5⟩ := key (x / 65536 % 256) 16 (by rw [Int.emod_eq_of_lt (by omega) (by omega), show ((2 : Int) ^ 16) = 65536 from rfl]) (by omega) (by omega) (by omega)
      refine ⟨t + 16, by omega, by omega, ?_, t4, t5⟩
      rw [t3, ho, wrap64_id (x := (m : Int) + 16) (by omega) (by omega), wrap64_id (x := (t : Int)) (by omega) (by omega), wrap64_id (by omega) (by omega)]
      congr 1
      omega
  · rw [if_neg c1]
    by_cases c2 : x ≥ 256
    · rw [if_pos c2, if_pos (by omega), if_pos (by omega)]
      obtain ⟨t, t1, t2, t3, t4, t5⟩ := key (x / 256 % 256) 8 (by rw [Int.emod_eq_of_lt (by omega) (by omega), show ((2 : Int) ^ 8) = 256 from rfl]) (by omega) (by omega) (by omega)
      refine ⟨t + 8, by omega, by omega, ?_, t4, t5⟩
      rw [t3, ho, wrap64_id (x := (m : Int) + 8) (by omega) (by omega), wrap64_id (x := (t : Int)) (by omega) (by omega), wrap64_id (by omega) (by omega)]
      congr 1
      omega
    · rw [if_neg c2, if_pos (by omega), if_pos (by omega)]
      obtain ⟨t, t1, t2, t3, t4, t5⟩ := key (x % 256) 0 (by rw [Int.emod_eq_of_lt (by omega) (by omega)]; simp) (by omega) (by omega) (by omega)
      refine ⟨t, by omega, by omega, ?_, t4, t5⟩
      rw [t3, ho, wrap64_id (x := (t : Int)) (by omega) (by omega), wrap64_id (by omega) (by omega)]
      congr 1
      omega
theorem Len64_ok (k : Nat) (x : Int) (h0 : 0 < x) (h1 : x < 18446744073709551616) :
    ∃ t : Nat, 1 ≤ t ∧ t ≤ 64 ∧ bits_Len64.f (k + 1) x = some (t : Int) ∧ (2 : Int) ^ (t - 1) ≤ x ∧ x < 2 ^ t := by
  unfold bits_Len64.f
  by_cases c : x ≥ 4294967296
  · rw [if_pos c]
    obtain ⟨t, t1, t2, t3, t4, t5⟩ := Len64_j0 k (x / 4294967296) 32 32 rfl (by omega) (by omega) (by omega)
    obtain ⟨e1, e2⟩ := bits_shift (x := x) (b := x / 4294967296) (t := t) (m := 32) (by rw [show ((2 : Int) ^ 32) = 4294967296 from rfl]) t1 t4 t5
    exact ⟨t + 32, by omega, by omega, t3, e1, e2⟩
  · rw [if_neg c]
    obtain ⟨t, t1, t2, t3, t4, t5⟩ := Len64_j0 k x 0 0 rfl (by omega) h0 (by omega)
    exact ⟨t, by omega, by omega, t3, t4, t5⟩
theorem LeadingZeros64_ok (k : Nat) (x : Int) (h0 : 0 < x) (h1 : x < 18446744073709551616) :
    ∃ s : Nat, s ≤ 63 ∧ bits_LeadingZeros64.f (k + 1) x = some (s : Int) ∧ (9223372036854775808 : Int) ≤ x * 2 ^ s ∧ x * 2 ^ s < 18446744073709551616 := by
  obtain ⟨t, t1, t2, t3, t4, t5⟩ := Len64_ok k x h0 h1
  refine ⟨64 - t, by omega, ?_, ?_, ?_⟩
  · unfold bits_LeadingZeros64.f
    rw [t3]
    simp only [Option.bind_some]
    rw [wrap64_id (by omega) (by omega)]
    congr 1
    omega
  · have e := two_pow_split (t - 1) (64 - t) 63 (by omega)
    have k1 := Int.mul_le_mul_of_nonneg_right t4 (Int.le_of_lt (two_pow_pos (64 - t)))
    rw [e] at k1
    exact k1
  · have e := two_pow_split t (64 - t) 64 (by omega)
    have k1 := Int.mul_lt_mul_of_pos_right t5 (two_pow_pos (64 - t))
    rw [e] at k1
    exact k1

/-! #### the loops of Div64: a guessed digit is lowered until it is the digit -/
section
variable {y yn1 yn0 u v q r : Int}
theorem kn_eq (hy : y = yn1 * 4294967296 + yn0) : q * y = q * yn1 * 4294967296 + q * yn0 := by rw [hy, Int.mul_add, Int.mul_assoc]
theorem kn_dec (hy : y = yn1 * 4294967296 + yn0) (hu0 : 0 ≤ u) (hu : u < y) (hv0 : 0 ≤ v) (hv : v < 4294967296) (hq : u = q * yn1 + r) (hq0 : 0 ≤ q) (hc : q ≥ 4294967296 ∨ q * yn0 > 4294967296 * r + v) : u * 4294967296 + v < q * y ∧ 1 ≤ q := by
  have e := kn_eq (q := q) hy
  have h : u * 4294967296 + v < q * y := by
    rcases hc with h | h
    · have := Int.mul_le_mul_of_nonneg_right h (by omega : 0 ≤ y)
      omega
    · omega
  refine ⟨h, ?_⟩
  rcases Int.lt_or_le 0 q with h' | h'
  · omega
  · have : q = 0 := by omega
    subst this
    rw [Int.zero_mul] at h
    omega
theorem kn_low (hy : y = yn1 * 4294967296 + yn0) (hu : u < y) (hu0 : 0 ≤ u) (hv : v < 4294967296) (hq : q * y ≤ u * 4294967296 + v) : q < 4294967296 := by
  rcases Int.lt_or_le q 4294967296 with h | h
  · exact h
  · have := Int.mul_le_mul_of_nonneg_right h (by omega : 0 ≤ y)
    omega
theorem kn_brk (hy : y = yn1 * 4294967296 + yn0) (h2 : 0 ≤ yn0) (h2' : yn0 < 4294967296) (hv0 : 0 ≤ v) (hq : u = q * yn1 + r) (hq0 : 0 ≤ q) (hq1 : q ≤ 4294967296) (hr : 4294967296 ≤ r) : q * y ≤ u * 4294967296 + v := by
  have e := kn_eq (q := q) hy
  have h := (mul_bd hq0 hq1 h2 (by omega : yn0 ≤ 4294967295)).2
  omega
end

theorem Div64_l0 (y s yn1 yn0 u v un0 : Int) (hy : y = yn1 * 4294967296 + yn0) (h1 : 2147483648 ≤ yn1) (h1' : yn1 < 4294967296) (h2 : 0 ≤ yn0) (h2' : yn0 < 4294967296) (hu0 : 0 ≤ u) (hu : u < y) (hv0 : 0 ≤ v) (hv : v < 4294967296) :
    ∀ (d k : Nat) (q r : Int), 2 * d + 2 ≤ k → 4294967296 ≤ r + d * 2147483648 → 0 ≤ r → r < 4294967296 → u = q * yn1 + r → 0 ≤ q → q ≤ 4294967297 → u * 4294967296 + v < q * y + y →
    ∃ k' q', k ≤ k' + (2 * d + 2) ∧ bits_Div64.l0 k y s yn1 yn0 u v un0 q r = bits_Div64.j2 k' y s yn1 yn0 u v un0 q' ∧ 0 ≤ q' ∧ q' < 4294967296 ∧ q' * y ≤ u * 4294967296 + v ∧ u * 4294967296 + v < q' * y + y := by
  intro d
  induction d with
  | zero => intro k q r _ h; intros; omega
  | succ d ih =>
    intro k q r hk hd hr0 hr hq hq0 hq1 hlt
    obtain ⟨k, rfl⟩ : ∃ m, k = m + 2 := ⟨k - 2, by omega⟩
    have dec : q ≥ 4294967296 ∨ q * yn0 > 4294967296 * r + v → ∃ k' q', k + 2 ≤ k' + (2 * (d + 1) + 2) ∧ bits_Div64.j1 (k + 1) y s yn1 yn0 u v un0 q r true = bits_Div64.j2 k' y s yn1 yn0 u v un0 q' ∧ 0 ≤ q' ∧ q' < 4294967296 ∧ q' * y ≤ u * 4294967296 + v ∧ u * 4294967296 + v < q' * y + y := by
      intro hc
      obtain ⟨g1, g2⟩ := kn_dec hy hu0 hu hv0 hv hq hq0 hc
      have e1 : (q - 1) * y = q * y - y := by rw [Int.sub_mul, Int.one_mul]
      have e2 : (q - 1) * yn1 = q * yn1 - yn1 := by rw [Int.sub_mul, Int.one_mul]
      simp only [bits_Div64.j1, ↓reduceIte]
      rw [wrap_id (x := q - 1) ⟨by omega, by omega⟩, wrap_id (x := r + yn1) ⟨by omega, by omega⟩]
      by_cases c : r + yn1 ≥ 4294967296
      · rw [if_pos c]
        have b := kn_brk (q := q - 1) (r := r + yn1) (u := u) (v := v) hy h2 h2' hv0 (by omega) (by omega) (by omega) c
        exact ⟨k, q - 1, by omega, rfl, by omega, kn_low hy hu hu0 hv b, b, by omega⟩
      · rw [if_neg c]
        obtain ⟨k', q', a1, a2, a3⟩ := ih k (q - 1) (r + yn1) (by omega) (by omega) (by omega) (by omega) (by omega) (by omega) (by omega) (by omega)
        exact ⟨k', q', by omega, a2, a3⟩
    simp only [bits_Div64.l0]
    by_cases c1 : q ≥ 4294967296
    · rw [if_pos c1]
      exact dec (.inl c1)
    · rw [if_neg c1]
      have b1 := mul_bd hq0 (by omega : q ≤ 4294967295) h2 (by omega : yn0 ≤ 4294967295)
      rw [wrap_id (x := q * yn0) ⟨by omega, by omega⟩, wrap_id (x := 4294967296 * r) ⟨by omega, by omega⟩, wrap_id (x := 4294967296 * r + v) ⟨by omega, by omega⟩]
      by_cases c2 : q * yn0 > 4294967296 * r + v
      · rw [decide_eq_true c2]
        exact dec (.inr c2)
      · rw [decide_eq_false c2]
        simp only [bits_Div64.j1, Bool.false_eq_true, ↓reduceIte]
        have e := kn_eq (q := q) hy
        exact ⟨k, q, by omega, rfl, hq0, by omega, by omega, hlt⟩
theorem Div64_l1 (y s yn1 yn0 u v q1 : Int) (hy : y = yn1 * 4294967296 + yn0) (h1 : 2147483648 ≤ yn1) (h1' : yn1 < 4294967296) (h2 : 0 ≤ yn0) (h2' : yn0 < 4294967296) (hu0 : 0 ≤ u) (hu : u < y) (hv0 : 0 ≤ v) (hv : v < 4294967296) (hs : 0 ≤ s) :
    ∀ (d k : Nat) (q r : Int), 2 * d + 2 ≤ k → 4294967296 ≤ r + d * 2147483648 → 0 ≤ r → r < 4294967296 → u = q * yn1 + r → 0 ≤ q → q ≤ 4294967297 → u * 4294967296 + v < q * y + y →
    ∃ q', bits_Div64.l1 k y s yn1 yn0 v q1 r u q = some (IntKind.u64.wrap (IntKind.u64.wrap (q1 * 4294967296) + q'), shr .u64 (IntKind.u64.wrap (IntKind.u64.wrap (IntKind.u64.wrap (u * 4294967296) + v) - IntKind.u64.wrap (q' * y))) s) ∧ 0 ≤ q' ∧ q' < 4294967296 ∧ q' * y ≤ u * 4294967296 + v ∧ u * 4294967296 + v < q' * y + y := by
  intro d
  induction d with
  | zero => intro k q r _ h; intros; omega
  | succ d ih =>
    intro k q r hk hd hr0 hr hq hq0 hq1 hlt
    obtain ⟨k, rfl⟩ : ∃ m, k = m + 2 := ⟨k - 2, by omega⟩
    have dec : q ≥ 4294967296 ∨ q * yn0 > 4294967296 * r + v → ∃ q', bits_Div64.j4 (k + 1) y s yn1 yn0 v q1 r u q true = some (IntKind.u64.wrap (IntKind.u64.wrap (q1 * 4294967296) + q'), shr .u64 (IntKind.u64.wrap (IntKind.u64.wrap (IntKind.u64.wrap (u * 4294967296) + v) - IntKind.u64.wrap (q' * y))) s) ∧ 0 ≤ q' ∧ q' < 4294967296 ∧ q' * y ≤ u * 4294967296 + v ∧ u * 4294967296 + v < q' * y + y := by
      intro hc
      obtain ⟨g1, g2⟩ := kn_dec hy hu0 hu hv0 hv hq hq0 hc
      have e1 : (q - 1) * y = q * y - y := by rw [Int.sub_mul, Int.one_mul]
      have e2 : (q - 1) * yn1 = q * yn1 - yn1 := by rw [Int.sub_mul, Int.one_mul]
      simp only [bits_Div64.j4, ↓reduceIte]
      rw [wrap_id (x := q - 1) ⟨by omega, by omega⟩, wrap_id (x := r + yn1) ⟨by omega, by omega⟩]
      by_cases c : r + yn1 ≥ 4294967296
      · rw [if_pos c, if_pos hs]
        have b := kn_brk (q := q - 1) (r := r + yn1) (u := u) (v := v) hy h2 h2' hv0 (by omega) (by omega) (by omega) c
        exact ⟨q - 1, rfl, by omega, kn_low hy hu hu0 hv b, b, by omega⟩
      · rw [if_neg c]
        exact ih k (q - 1) (r + yn1) (by omega) (by omega) (by omega) (by omega) (by omega) (by omega) (by omega) (by omega)
    simp only [bits_Div64.l1]
    by_cases c1 : q ≥ 4294967296
    · rw [if_pos c1]
      exact dec (.inl c1)
    · rw [if_neg c1]
      have b1 := mul_bd hq0 (by omega : q ≤ 4294967295) h2 (by omega : yn0 ≤ 4294967295)
      rw [wrap_id (x := q * yn0) ⟨by omega, by omega⟩, wrap_id (x := 4294967296 * r) ⟨by omega, by omega⟩, wrap_id (x := 4294967296 * r + v) ⟨by omega, by omega⟩]
      by_cases c2 : q * yn0 > 4294967296 * r + v
      · rw [decide_eq_true c2]
        exact dec (.inr c2)
      · rw [decide_eq_false c2]
        simp only [bits_Div64.j4, Bool.false_eq_true, ↓reduceIte]
        rw [if_pos hs]
        have e := kn_eq (q := q) hy
        exact ⟨q, rfl, hq0, by omega, by omega, hlt⟩
/-- bits.Div64, where the quotient fits: the quotient and the rest. -/
theorem Div64_ok (k : Nat) (hk : 20 ≤ k) (hi lo y : Int) (h0 : 0 ≤ hi) (hl : U64 lo) (hy : y < 18446744073709551616) (hlt : hi < y) :
    bits_Div64.f k hi lo y = some ((hi * 18446744073709551616 + lo) / y, (hi * 18446744073709551616 + lo) % y) := by
  obtain ⟨hl0, hl1⟩ := hl
  unfold bits_Div64.f
  rw [if_neg (by omega), if_neg (by omega)]
  by_cases c0 : hi = 0
  · subst c0
    rw [if_pos rfl, tdiv_nonneg_eq hl0, tmod_nonneg_eq hl0, wrap_id ⟨div_nonneg hl0 (by omega), ?_⟩]
    · simp
    · have := div_le hl0 (by omega : 0 < y)
      omega
  · rw [if_neg c0]
    obtain ⟨k, rfl⟩ : ∃ m, k = m + 1 := ⟨k - 1, by omega⟩
    obtain ⟨s, s1, s2, s3, s4⟩ := LeadingZeros64_ok k y (by omega) hy
    rw [s2]
    simp only [Option.bind_some]
    have P0 := two_pow_pos s
    have R0 := two_pow_pos (64 - s)
    have PR := two_pow_split s (64 - s) 64 (by omega)
    rw [show ((2 : Int) ^ 64) = 18446744073709551616 from rfl] at PR
    rw [wrap_id (x := (s : Int)) ⟨by omega, by omega⟩, wrap_id (x := 64 - (s : Int)) ⟨by omega, by omega⟩, if_pos (by omega), if_pos (by omega)]
    have es : (min ((s : Int).toNat) IntKind.u64.bits) = s := by simp [IntKind.bits] <;> omega
    have es' : (min ((64 - (s : Int)).toNat) IntKind.u64.bits) = 64 - s := by simp [IntKind.bits] <;> omega
    have eY : shl .u64 y (s : Int) = y * 2 ^ s := by unfold shl; rw [es, wrap_id ⟨by omega, s4⟩]
    have eH0 : hi * 2 ^ s ≤ y * 2 ^ s - 2 ^ s := by
      have := Int.mul_le_mul_of_nonneg_right (by omega : hi + 1 ≤ y) (Int.le_of_lt P0)
      rw [Int.add_mul, Int.one_mul] at this
      omega
    have eH1 : 0 ≤ hi * 2 ^ s := Int.mul_nonneg h0 (Int.le_of_lt P0)
    have eH : shl .u64 hi (s : Int) = hi * 2 ^ s := by unfold shl; rw [es, wrap_id ⟨eH1, by omega⟩]
    have eL : shr .u64 lo (64 - (s : Int)) = lo / 2 ^ (64 - s) := by unfold shr; rw [es']
    have eLl : lo / 2 ^ (64 - s) < 2 ^ s := div_lt R0 (by rw [PR]; exact hl1)
    have eL0 : 0 ≤ lo / 2 ^ (64 - s) := div_nonneg hl0 R0
    have eU : Go.bits .or .u64 (hi * 2 ^ s) (lo / 2 ^ (64 - s)) = hi * 2 ^ s + lo / 2 ^ (64 - s) :=
      bits_join .u64 64 (by decide) (fun n a b => wrap_id ⟨a, b⟩) s _ _ eH1 (Int.mul_emod_left _ _) (by show _ < (18446744073709551616 : Int); omega) eL0 eLl (by show _ < (18446744073709551616 : Int); omega)
    obtain ⟨d1, d2, d3⟩ := div_rest (n := lo) R0
    have eLo : lo * 2 ^ s = lo / 2 ^ (64 - s) * 18446744073709551616 + lo % 2 ^ (64 - s) * 2 ^ s := by
      conv => lhs; rw [← d1, Int.add_mul, Int.mul_assoc, Int.mul_comm (2 ^ (64 - s)), PR]
    have eR1 : lo % 2 ^ (64 - s) * 2 ^ s < 18446744073709551616 := by
      have := Int.mul_lt_mul_of_pos_right d3 P0
      rw [Int.mul_comm (2 ^ (64 - s)), PR] at this
      exact this
    have eR0 : 0 ≤ lo % 2 ^ (64 - s) * 2 ^ s := Int.mul_nonneg d2 (Int.le_of_lt P0)
    have eN : shl .u64 lo (s : Int) = lo % 2 ^ (64 - s) * 2 ^ s := by
      unfold shl
      rw [es, wrap_u64, eLo]
      omega
    have eA : Go.bits .and .u64 (y * 2 ^ s) 4294967295 = y * 2 ^ s % 4294967296 :=
      bits_mask .u64 64 (by decide) (fun n a b => wrap_id ⟨a, b⟩) 32 (by decide) _ (by omega) (by show _ < (18446744073709551616 : Int); omega)
    have eB : Go.bits .and .u64 (lo % 2 ^ (64 - s) * 2 ^ s) 4294967295 = lo % 2 ^ (64 - s) * 2 ^ s % 4294967296 :=
      bits_mask .u64 64 (by decide) (fun n a b => wrap_id ⟨a, b⟩) 32 (by decide) _ eR0 (by show _ < (18446744073709551616 : Int); omega)
    rw [eY, eH, eL, eN, eU, eA, eB]
    have eT : (hi * 18446744073709551616 + lo) * 2 ^ s = (hi * 2 ^ s + lo / 2 ^ (64 - s)) * 18446744073709551616 + lo % 2 ^ (64 - s) * 2 ^ s := by
      rw [Int.add_mul, eLo, Int.add_mul, Int.mul_assoc, Int.mul_comm 18446744073709551616 (2 ^ s), ← Int.mul_assoc]
      omega
    obtain ⟨z1, z2⟩ := div_scale (n := hi * 18446744073709551616 + lo) (y := y) P0 (by omega)
    rw [← z1, eT] at *
    generalize hU : hi * 2 ^ s + lo / 2 ^ (64 - s) = U at *
    generalize hV : lo % 2 ^ (64 - s) * 2 ^ s = V at *
    generalize hY : y * 2 ^ s = Y at *
    have hUY : U < Y := by omega
    have hU0 : 0 ≤ U := by omega
    have y1 : Y = Y / 4294967296 * 4294967296 + Y % 4294967296 := by omega
    rw [if_neg (by omega)]
    have n1 : 0 < Y / 4294967296 := by omega
    obtain ⟨g1, g2, g3⟩ := div_rest (n := U) n1
    have gq : U / (Y / 4294967296) < 4294967298 := div_lt n1 (by omega)
    have gq0 := div_nonneg hU0 n1
    rw [tdiv_nonneg_eq hU0, wrap_id (x := U / (Y / 4294967296)) ⟨gq0, by omega⟩]
    have gp0 : 0 ≤ U / (Y / 4294967296) * (Y / 4294967296) := Int.mul_nonneg gq0 (by omega)
    rw [wrap_id (x := U / (Y / 4294967296) * (Y / 4294967296)) ⟨gp0, by omega⟩, wrap_id (x := U - U / (Y / 4294967296) * (Y / 4294967296)) ⟨by omega, by omega⟩]
    have start : ∀ (u v : Int), 0 ≤ u → u < Y → 0 ≤ v → v < 4294967296 → u * 4294967296 + v < u / (Y / 4294967296) * Y + Y := by
      intro u v hu0 huY hv0 hv
      obtain ⟨f1, f2, f3⟩ := div_rest (n := u) n1
      have e := kn_eq (q := u / (Y / 4294967296)) y1
      have := Int.mul_nonneg (div_nonneg hu0 n1) (by omega : 0 ≤ Y % 4294967296)
      omega
    obtain ⟨k', q1, a1, a2, a3, a4, a5, a6⟩ := Div64_l0 Y s (Y / 4294967296) (Y % 4294967296) U (V / 4294967296) (V % 4294967296) y1 (by omega) (by omega) (by omega) (by omega) hU0 hUY (by omega) (by omega) 2 (k + 1) (U / (Y / 4294967296)) (U - U / (Y / 4294967296) * (Y / 4294967296)) (by omega) (by omega) (by omega) (by omega) (by omega) gq0 (by omega) (start U _ hU0 hUY (by omega) (by omega))
    rw [a2]
    obtain ⟨k', rfl⟩ : ∃ m, k' = m + 1 := ⟨k' - 1, by omega⟩
    simp only [bits_Div64.j2]
    rw [if_neg (by omega)]
    have w1 : IntKind.u64.wrap (IntKind.u64.wrap (IntKind.u64.wrap (U * 4294967296) + V / 4294967296) - IntKind.u64.wrap (q1 * Y)) = U * 4294967296 + V / 4294967296 - q1 * Y := by
      simp only [wrap_u64]
      omega
    rw [w1]
    generalize hu2 : U * 4294967296 + V / 4294967296 - q1 * Y = u2 at *
    obtain ⟨b1, b2, b3⟩ := div_rest (n := u2) n1
    have bq : u2 / (Y / 4294967296) < 4294967298 := div_lt n1 (by omega)
    have bq0 := div_nonneg (by omega : 0 ≤ u2) n1
    rw [tdiv_nonneg_eq (by omega : 0 ≤ u2), wrap_id (x := u2 / (Y / 4294967296)) ⟨bq0, by omega⟩]
    have bp0 : 0 ≤ u2 / (Y / 4294967296) * (Y / 4294967296) := Int.mul_nonneg bq0 (by omega)
    rw [wrap_id (x := u2 / (Y / 4294967296) * (Y / 4294967296)) ⟨bp0, by omega⟩, wrap_id (x := u2 - u2 / (Y / 4294967296) * (Y / 4294967296)) ⟨by omega, by omega⟩]
    obtain ⟨q0, c1, c2, c3, c4, c5⟩ := Div64_l1 Y s (Y / 4294967296) (Y % 4294967296) u2 (V % 4294967296) q1 y1 (by omega) (by omega) (by omega) (by omega) (by omega) (by omega) (by omega) (by omega) (by omega) 2 k' (u2 / (Y / 4294967296)) (u2 - u2 / (Y / 4294967296) * (Y / 4294967296)) (by omega) (by omega) (by omega) (by omega) (by omega) bq0 (by omega) (start u2 _ (by omega) (by omega) (by omega) (by omega))
    rw [c1]
    have eq : (q1 * 4294967296 + q0) * Y = q1 * Y * 4294967296 + q0 * Y := by
      rw [Int.add_mul, Int.mul_assoc, Int.mul_comm 4294967296 Y, ← Int.mul_assoc]
    obtain ⟨r1, r2⟩ := div_uniq (n := U * 18446744073709551616 + V) (y := Y) (q := q1 * 4294967296 + q0) (by omega) (by omega)
    have w2 : IntKind.u64.wrap (IntKind.u64.wrap (IntKind.u64.wrap (u2 * 4294967296) + V % 4294967296) - IntKind.u64.wrap (q0 * Y)) = u2 * 4294967296 + V % 4294967296 - q0 * Y := by
      simp only [wrap_u64]
      omega
    have w3 : IntKind.u64.wrap (IntKind.u64.wrap (q1 * 4294967296) + q0) = q1 * 4294967296 + q0 := by
      simp only [wrap_u64]
      omega
    rw [w2, w3, r1]
    have w4 : u2 * 4294967296 + V % 4294967296 - q0 * Y = (U * 18446744073709551616 + V) % Y := by rw [r2]; omega
    rw [w4, z2]
    unfold shr
    rw [es, Int.mul_ediv_cancel _ (by omega)]
/-- The number that two words stand for. -/
def wv (h l : Int) : Int := h * 18446744073709551616 + l
theorem wv_bd {h l : Int} (hh : U64 h) (hl : U64 l) : 0 ≤ wv h l ∧ wv h l < 340282366920938463463374607431768211456 := by
  obtain ⟨_, _⟩ := hh; obtain ⟨_, _⟩ := hl; unfold wv; omega
theorem wv_of {n : Int} : wv (n / 18446744073709551616) (n % 18446744073709551616) = n := by unfold wv; omega
theorem wv_zero {l : Int} : wv 0 l = l := by unfold wv; omega
theorem U64_hi {n : Int} (h0 : 0 ≤ n) (h1 : n < 340282366920938463463374607431768211456) : U64 (n / 18446744073709551616) := ⟨by omega, by omega⟩
theorem U64_lo {n : Int} : U64 (n % 18446744073709551616) := ⟨by omega, by omega⟩
theorem U64_zero : U64 0 := ⟨by decide, by decide⟩

section
variable {a0 a1 b0 b1 : Int}
theorem wide_Add_ok (h0 : U64 a0) (h1 : U64 a1) (h2 : U64 b0) (h3 : U64 b1) (h : wv a0 a1 + wv b0 b1 < 340282366920938463463374607431768211456) :
    wide_Add.f a0 a1 b0 b1 = some ((wv a0 a1 + wv b0 b1) / 18446744073709551616, (wv a0 a1 + wv b0 b1) % 18446744073709551616, 0) := by
  obtain ⟨_, _⟩ := h0; obtain ⟨_, _⟩ := h1; obtain ⟨_, _⟩ := h2; obtain ⟨_, _⟩ := h3
  unfold wv at *
  unfold wide_Add.f bits_Add64.f
  rw [if_pos ⟨by omega, by omega, by omega, by omega⟩]
  simp only [Option.bind_some]
  rw [if_pos ⟨by omega, by omega, by omega, by omega⟩]
  simp only [Option.bind_some]
  rw [if_pos (by omega)]
  congr 3 <;> omega
theorem wide_Sub_ok (h0 : U64 a0) (h1 : U64 a1) (h2 : U64 b0) (h3 : U64 b1) (h : wv b0 b1 ≤ wv a0 a1) :
    wide_Sub.f a0 a1 b0 b1 = some ((wv a0 a1 - wv b0 b1) / 18446744073709551616, (wv a0 a1 - wv b0 b1) % 18446744073709551616, 0) := by
  obtain ⟨_, _⟩ := h0; obtain ⟨_, _⟩ := h1; obtain ⟨_, _⟩ := h2; obtain ⟨_, _⟩ := h3
  unfold wv at *
  unfold wide_Sub.f bits_Sub64.f
  by_cases c : a1 < b1 + 0
  · rw [if_pos ⟨by omega, by omega, by omega, by omega, by omega⟩, if_pos c]
    simp only [Option.bind_some]
    rw [if_pos ⟨by omega, by omega, by omega, by omega, by omega⟩, if_neg (by omega)]
    simp only [Option.bind_some, ↓reduceIte]
    congr 3 <;> omega
  · rw [if_pos ⟨by omega, by omega, by omega, by omega, by omega⟩, if_neg c]
    simp only [Option.bind_some]
    rw [if_pos ⟨by omega, by omega, by omega, by omega, by omega⟩, if_neg (by omega)]
    simp only [Option.bind_some, ↓reduceIte]
    congr 3 <;> omega
theorem wide_Small_ok (h0 : a0 = 0) : wide_Small.f a0 a1 = some (a1, 0) := by unfold wide_Small.f; rw [if_pos h0]
theorem wide_Small_err (h0 : a0 ≠ 0) : wide_Small.f a0 a1 = some (0, 16) := by unfold wide_Small.f; rw [if_neg h0]
theorem wide_Of_ok : wide_Of.f a0 = some (0, a0) := rfl
end
theorem and_mask {x : Int} (h0 : 0 ≤ x) (h1 : x < 18446744073709551616) : Go.bits .and .u64 x 4294967295 = x % 4294967296 :=
  bits_mask .u64 64 (by decide) (fun n a b => wrap_id ⟨a, b⟩) 32 (by decide) x h0 h1
theorem mul_parts (x y : Int) : x * y = (x / 4294967296) * (y / 4294967296) * 18446744073709551616 + ((x / 4294967296) * (y % 4294967296) + (x % 4294967296) * (y / 4294967296)) * 4294967296 + (x % 4294967296) * (y % 4294967296) := by
  have hx : x = x / 4294967296 * 4294967296 + x % 4294967296 := by omega
  have hy : y = y / 4294967296 * 4294967296 + y % 4294967296 := by omega
  generalize x / 4294967296 = x1 at *
  generalize x % 4294967296 = x0 at *
  generalize y / 4294967296 = y1 at *
  generalize y % 4294967296 = y0 at *
  subst hx; subst hy
  rw [Int.add_mul, Int.mul_add, Int.mul_add]
  have e1 : x1 * 4294967296 * (y1 * 4294967296) = x1 * y1 * 18446744073709551616 := by
    rw [Int.mul_assoc, Int.mul_comm 4294967296 (y1 * 4294967296), Int.mul_assoc y1, ← Int.mul_assoc]; rfl
  have e2 : x1 * 4294967296 * y0 = x1 * y0 * 4294967296 := by rw [Int.mul_assoc, Int.mul_comm 4294967296, ← Int.mul_assoc]
  have e3 : x0 * (y1 * 4294967296) = x0 * y1 * 4294967296 := by rw [Int.mul_assoc]
  rw [e1, e2, e3]
  omega
section
variable {x y : Int}
theorem parts_bd (hx : U64 x) (hy : U64 y) :
    (0 ≤ (x / 4294967296) * (y / 4294967296) ∧ (x / 4294967296) * (y / 4294967296) ≤ 18446744065119617025) ∧ (0 ≤ (x / 4294967296) * (y % 4294967296) ∧ (x / 4294967296) * (y % 4294967296) ≤ 18446744065119617025) ∧
    (0 ≤ (x % 4294967296) * (y / 4294967296) ∧ (x % 4294967296) * (y / 4294967296) ≤ 18446744065119617025) ∧ (0 ≤ (x % 4294967296) * (y % 4294967296) ∧ (x % 4294967296) * (y % 4294967296) ≤ 18446744065119617025) := by
  obtain ⟨_, _⟩ := hx; obtain ⟨_, _⟩ := hy
  have b : ∀ a b : Int, 0 ≤ a → a ≤ 4294967295 → 0 ≤ b → b ≤ 4294967295 → 0 ≤ a * b ∧ a * b ≤ 18446744065119617025 := fun a b h0 h1 h2 h3 => mul_bd h0 h1 h2 h3
  exact ⟨b _ _ (by omega) (by omega) (by omega) (by omega), b _ _ (by omega) (by omega) (by omega) (by omega), b _ _ (by omega) (by omega) (by omega) (by omega), b _ _ (by omega) (by omega) (by omega) (by omega)⟩
theorem bits_Mul64_ok (hx : U64 x) (hy : U64 y) : bits_Mul64.f x y = some (x * y / 18446744073709551616, x * y % 18446744073709551616) := by
  obtain ⟨⟨a1, a2⟩, ⟨b1, b2⟩, ⟨c1, c2⟩, ⟨d1, d2⟩⟩ := parts_bd hx hy
  have e := mul_parts x y
  obtain ⟨hx0, hx1⟩ := hx; obtain ⟨hy0, hy1⟩ := hy
  unfold bits_Mul64.f
  rw [and_mask hx0 hx1, and_mask hy0 hy1, wrap_u64 (x * y)]
  generalize x / 4294967296 * (y / 4294967296) = p11 at *
  generalize x / 4294967296 * (y % 4294967296) = p10 at *
  generalize x % 4294967296 * (y / 4294967296) = p01 at *
  generalize x % 4294967296 * (y % 4294967296) = p00 at *
  generalize x * y = n at *
  rw [wrap_id (x := p11) ⟨by omega, by omega⟩, wrap_id (x := p10) ⟨by omega, by omega⟩, wrap_id (x := p00) ⟨by omega, by omega⟩, wrap_id (x := p01) ⟨by omega, by omega⟩,
    wrap_id (x := p10 + p00 / 4294967296) ⟨by omega, by omega⟩, and_mask (by omega) (by omega), wrap_id (x := (p10 + p00 / 4294967296) % 4294967296 + p01) ⟨by omega, by omega⟩,
    wrap_id (x := p11 + (p10 + p00 / 4294967296) / 4294967296) ⟨by omega, by omega⟩, wrap_id ⟨by omega, by omega⟩]
  congr 2
  omega
theorem wide_Mul_ok (hx : U64 x) (hy : U64 y) : wide_Mul.f x y = some (x * y / 18446744073709551616, x * y % 18446744073709551616) := by
  unfold wide_Mul.f
  rw [bits_Mul64_ok hx hy]
  rfl
end
section
variable {a0 a1 d : Int}
theorem wide_Div_ok (k : Nat) (hk : 20 ≤ k) (h0 : U64 a0) (h1 : U64 a1) (hd : 0 < d) (hd1 : d < 18446744073709551616) :
    wide_Div.f k a0 a1 d = some (wv a0 a1 / d / 18446744073709551616, wv a0 a1 / d % 18446744073709551616, wv a0 a1 % d, 0) := by
  obtain ⟨r1, r2, r3⟩ := div_rest (n := a0) hd
  have l0 := div_nonneg h0.1 hd
  have l1 := div_le h0.1 hd
  unfold wide_Div.f
  rw [if_neg (by omega), Div64_ok k hk 0 a0 d (by omega) h0 hd1 hd]
  simp only [Option.bind_some, Int.zero_mul, Int.zero_add]
  rw [Div64_ok k hk (a0 % d) a1 d r2 h1 hd1 r3]
  simp only [Option.bind_some]
  obtain ⟨g1, g2⟩ := h1
  obtain ⟨s1, s2, s3⟩ := div_rest (n := a0 % d * 18446744073709551616 + a1) hd
  have q0 := div_nonneg (n := a0 % d * 18446744073709551616 + a1) (by omega) hd
  have q1 : (a0 % d * 18446744073709551616 + a1) / d < 18446744073709551616 := div_lt hd (by omega)
  generalize (a0 % d * 18446744073709551616 + a1) / d = Q at *
  generalize (a0 % d * 18446744073709551616 + a1) % d = R at *
  generalize a0 / d = P at *
  have e : (P * 18446744073709551616 + Q) * d = P * d * 18446744073709551616 + Q * d := by
    rw [Int.add_mul, Int.mul_assoc, Int.mul_comm 18446744073709551616 d, ← Int.mul_assoc]
  obtain ⟨z1, z2⟩ := div_uniq (n := wv a0 a1) (y := d) (q := P * 18446744073709551616 + Q) (by unfold wv; omega) (by unfold wv; omega)
  rw [z1, z2, e]
  unfold wv
  congr 2
  · omega
  · congr 2
    · omega
    · congr 1
      omega
/-- The raised quotient. -/
def cdiv (n d : Int) : Int := (n + d - 1) / d
theorem cdiv_eq {n d : Int} (hd : 0 < d) : cdiv n d = if n % d = 0 then n / d else n / d + 1 := by
  unfold cdiv
  obtain ⟨r1, r2, r3⟩ := div_rest (n := n) hd
  split
  · exact (div_uniq (by omega) (by omega)).1
  · have e : (n / d + 1) * d = n / d * d + d := by rw [Int.add_mul, Int.one_mul]
    exact (div_uniq (by omega) (by omega)).1
theorem quot_bd (h0 : U64 a0) (h1 : U64 a1) (hd : 0 < d) : 0 ≤ wv a0 a1 / d ∧ wv a0 a1 / d < 340282366920938463463374607431768211456 := by
  obtain ⟨b0, b1⟩ := wv_bd h0 h1
  have := div_le b0 hd
  exact ⟨div_nonneg b0 hd, by omega⟩
theorem quot_up_bd (h0 : U64 a0) (h1 : U64 a1) (hd : 0 < d) : 0 ≤ cdiv (wv a0 a1) d ∧ cdiv (wv a0 a1) d < 340282366920938463463374607431768211456 := by
  obtain ⟨b0, b1⟩ := wv_bd h0 h1
  obtain ⟨q0, q1⟩ := quot_bd h0 h1 hd
  obtain ⟨r1, r2, r3⟩ := div_rest (n := wv a0 a1) hd
  rw [cdiv_eq hd]
  split
  · exact ⟨q0, q1⟩
  · have h2 : wv a0 a1 / d * 2 ≤ wv a0 a1 / d * d := Int.mul_le_mul_of_nonneg_left (by omega) q0
    omega
theorem wide_Up_ok (k : Nat) (hk : 20 ≤ k) (h0 : U64 a0) (h1 : U64 a1) (hd : 0 < d) (hd1 : d < 18446744073709551616) :
    wide_Up.f k a0 a1 d = some (cdiv (wv a0 a1) d / 18446744073709551616, cdiv (wv a0 a1) d % 18446744073709551616, 0) := by
  obtain ⟨q0, q1⟩ := quot_bd h0 h1 hd
  obtain ⟨u0, u1⟩ := quot_up_bd h0 h1 hd
  unfold wide_Up.f
  rw [wide_Div_ok k hk h0 h1 hd hd1]
  obtain ⟨k, rfl⟩ : ∃ m, k = m + 1 := ⟨k - 1, by omega⟩
  simp only [Option.bind_some, wide_Up.j0, ↓reduceIte]
  rw [cdiv_eq hd] at u0 u1 ⊢
  by_cases c : wv a0 a1 % d = 0
  · rw [if_pos (by simp [c]), if_pos c]
  · rw [if_neg c] at u0 u1
    rw [if_neg (by simpa using c), if_neg c, wide_Of_ok]
    simp only [Option.bind_some]
    rw [wide_Add_ok (U64_hi q0 q1) U64_lo U64_zero ⟨by decide, by decide⟩ (by rw [wv_of, wv_zero]; omega), wv_of, wv_zero]
    rfl
end
/-- A valid limit: Burst, Rate, Per. -/
def VL (b r p : Int) : Prop := 1 ≤ b ∧ b ≤ 1000000000 ∧ 0 ≤ r ∧ r ≤ 1000000000 ∧ 1 ≤ p ∧ p ≤ 1000000000
/-- A valid bucket: its limit, Level, Part, At. -/
def VB (b r p l q t : Int) : Prop := VL b r p ∧ 0 ≤ l ∧ l ≤ b ∧ 0 ≤ q ∧ q < p ∧ (l = b → q = 0) ∧ U64 t
section
variable {b r p l q t s : Int}
theorem CheckLimit_ok (h : VL b r p) : bucket_CheckLimit.f b r p = some 0 := by
  obtain ⟨_, _, _, _, _, _⟩ := h
  unfold bucket_CheckLimit.f
  rw [if_neg (by omega), if_neg (by omega), if_neg (by omega), if_neg (by omega), if_neg (by omega), if_neg (by omega)]
theorem CheckLimit_bad (h : ¬ VL b r p) : bucket_CheckLimit.f b r p = some 8 := by
  unfold bucket_CheckLimit.f
  unfold VL at h
  repeat' split
  all_goals first | rfl | (exfalso; omega)
theorem Check_ok (h : VB b r p l q t) : bucket_Check.f b r p l q t = some 0 := by
  obtain ⟨hl, h1, h2, h3, h4, h5, _⟩ := h
  have hb := hl.1
  have hb' := hl.2.1
  unfold bucket_Check.f
  rw [CheckLimit_ok hl]
  simp only [Option.bind_some, ↓reduceIte]
  rw [if_neg (by omega), wrap64_id (x := b - l) (by omega) (by omega), if_neg (by omega), if_neg (by omega), if_neg (by omega)]
  by_cases c : b - l = 0
  · rw [if_pos c, if_neg (by have := h5 (by omega); omega)]
  · rw [if_neg c]
theorem Check_bad (ht : U64 t) (hl : I64 l) (h : ¬ VB b r p l q t) : bucket_Check.f b r p l q t = some 8 := by
  obtain ⟨_, _⟩ := hl
  unfold bucket_Check.f
  by_cases hv : VL b r p
  · rw [CheckLimit_ok hv]
    simp only [Option.bind_some, ↓reduceIte]
    have h' : ¬ (0 ≤ l ∧ l ≤ b ∧ 0 ≤ q ∧ q < p ∧ (l = b → q = 0)) := fun g => h ⟨hv, g.1, g.2.1, g.2.2.1, g.2.2.2.1, g.2.2.2.2, ht⟩
    obtain ⟨_, _, _, _, _, _⟩ := hv
    by_cases c1 : l < 0
    · rw [if_pos c1]
    · rw [if_neg c1, wrap64_id (x := b - l) (by omega) (by omega)]
      repeat' split
      all_goals first | rfl | (exfalso; omega)
  · rw [CheckLimit_bad hv]
    simp
/-- Level, Part and At behind a refill at t. -/
def fN (r q s t : Int) : Int := (t - s) * r + q
def fL (b r p l q s t : Int) : Int := if t ≤ s then l else if fN r q s t / p ≥ b - l then b else l + fN r q s t / p
def fP (b r p l q s t : Int) : Int := if t ≤ s then q else if fN r q s t / p ≥ b - l then 0 else fN r q s t % p
def fT (s t : Int) : Int := if t ≤ s then s else t
theorem fN_bd (hv : VB b r p l q s) (ht : U64 t) (h : s ≤ t) : 0 ≤ fN r q s t ∧ fN r q s t ≤ 18446744073709551615000000000 + 1000000000 ∧ 0 ≤ (t - s) * r ∧ (t - s) * r ≤ 18446744073709551615000000000 := by
  obtain ⟨⟨_, _, _, _, _, _⟩, _, _, _, _, _, ⟨_, _⟩⟩ := hv
  obtain ⟨_, _⟩ := ht
  have := mul_bd (by omega : 0 ≤ t - s) (by omega : t - s ≤ 18446744073709551615) (by assumption : 0 ≤ r) (by assumption : r ≤ 1000000000)
  unfold fN
  omega
theorem fill_ok (k : Nat) (hk : 20 ≤ k) (hv : VB b r p l q s) (ht : U64 t) : bucket_fill.f k b r p l q s t = some (b, r, p, fL b r p l q s t, fP b r p l q s t, fT s t) := by
  unfold bucket_fill.f fL fP fT
  by_cases c : t ≤ s
  · rw [if_pos c, if_pos c, if_pos c, if_pos c]
  · rw [if_neg c, if_neg c, if_neg c, if_neg c]
    obtain ⟨n0, n1, m0, m1⟩ := fN_bd hv ht (by omega : s ≤ t)
    obtain ⟨⟨b0, b1, r0, r1, p0, p1⟩, l0, l1, q0, q1, _, ⟨s0, s1⟩⟩ := hv
    obtain ⟨t0, t1⟩ := ht
    have ur : U64 r := ⟨by omega, by omega⟩
    have uq : U64 q := ⟨by omega, by omega⟩
    have up : U64 p := ⟨by omega, by omega⟩
    have ud : U64 (t - s) := ⟨by omega, by omega⟩
    have ub : U64 (b - l) := ⟨by omega, by omega⟩
    rw [wrap_id ud, wrap_id ur, wrap_id uq, wrap_id up, wide_Mul_ok ud ur, wide_Of_ok]
    simp only [Option.bind_some]
    rw [wide_Add_ok (U64_hi m0 (by omega)) U64_lo U64_zero uq (by rw [wv_of, wv_zero]; omega), wv_of, wv_zero]
    simp only [Option.bind_some]
    have e : (t - s) * r + q = fN r q s t := rfl
    rw [e, wide_Div_ok k hk (U64_hi n0 (by omega)) U64_lo (by omega) up.2, wv_of]
    simp only [Option.bind_some]
    have d0 := div_nonneg n0 (by omega : 0 < p)
    obtain ⟨e1, e2, e3⟩ := div_rest (n := fN r q s t) (by omega : 0 < p)
    by_cases c2 : fN r q s t / p < 18446744073709551616
    · rw [wide_Small_ok (by omega)]
      simp only [Option.bind_some, ↓reduceIte]
      rw [wrap64_id (x := b - l) (by omega) (by omega), wrap_id ub, show fN r q s t / p % 18446744073709551616 = fN r q s t / p by omega]
      by_cases c3 : fN r q s t / p ≥ b - l
      · rw [if_pos c3, if_pos c3, if_pos c3]
      · rw [if_neg c3, if_neg c3, if_neg c3, wrap64_id (x := fN r q s t / p) (by omega) (by omega), wrap64_id (by omega) (by omega), wrap64_id (by omega) (by omega)]
    · rw [wide_Small_err (by omega)]
      simp only [Option.bind_some]
      rw [if_neg (by decide), if_pos (by omega), if_pos (by omega)]
/-- What a bucket holds behind a refill, in parts. -/
theorem fill_amt (hv : VB b r p l q s) (h : s ≤ t) :
    (l * p + q + (t - s) * r < b * p → fL b r p l q s t * p + fP b r p l q s t = l * p + q + (t - s) * r) ∧ (b * p ≤ l * p + q + (t - s) * r → fL b r p l q s t = b ∧ fP b r p l q s t = 0) := by
  obtain ⟨⟨b0, b1, r0, r1, p0, p1⟩, l0, l1, q0, q1, hf, _⟩ := hv
  unfold fL fP
  by_cases c : t ≤ s
  · rw [if_pos c, if_pos c]
    have : t = s := by omega
    subst this
    rw [Int.sub_self, Int.zero_mul, Int.add_zero]
    refine ⟨fun _ => rfl, fun h => ?_⟩
    rcases Int.lt_or_le l b with g | g
    · have := Int.mul_le_mul_of_nonneg_right (by omega : l + 1 ≤ b) (by omega : 0 ≤ p)
      rw [Int.add_mul, Int.one_mul] at this
      omega
    · exact ⟨by omega, hf (by omega)⟩
  · rw [if_neg c, if_neg c]
    obtain ⟨e1, e2, e3⟩ := div_rest (n := fN r q s t) (by omega : 0 < p)
    have ef : fN r q s t = (t - s) * r + q := rfl
    by_cases c3 : fN r q s t / p ≥ b - l
    · rw [if_pos c3, if_pos c3]
      have h1 := Int.mul_le_mul_of_nonneg_right c3 (by omega : 0 ≤ p)
      rw [Int.sub_mul] at h1
      exact ⟨fun h => by omega, fun _ => ⟨rfl, rfl⟩⟩
    · rw [if_neg c3, if_neg c3]
      have h1 := Int.mul_le_mul_of_nonneg_right (by omega : fN r q s t / p + 1 ≤ b - l) (by omega : 0 ≤ p)
      rw [Int.sub_mul, Int.add_mul, Int.one_mul] at h1
      rw [Int.add_mul]
      exact ⟨fun _ => by omega, fun h => by omega⟩
theorem fT_U64 (hs : U64 s) (ht : U64 t) : U64 (fT s t) := by unfold fT; split <;> assumption
theorem fill_valid (hv : VB b r p l q s) (ht : U64 t) : VB b r p (fL b r p l q s t) (fP b r p l q s t) (fT s t) := by
  have hv0 := hv
  obtain ⟨hl, l0, l1, q0, q1, hf, hs⟩ := hv
  refine ⟨hl, ?_⟩
  have hT := fT_U64 hs ht
  obtain ⟨b0, b1, r0, r1, p0, p1⟩ := hl
  by_cases c : t ≤ s
  · unfold fL fP
    rw [if_pos c, if_pos c]
    exact ⟨l0, l1, q0, q1, hf, hT⟩
  · obtain ⟨n0, n1, m0, m1⟩ := fN_bd hv0 ht (by omega : s ≤ t)
    unfold fL fP
    rw [if_neg c, if_neg c]
    obtain ⟨e1, e2, e3⟩ := div_rest (n := fN r q s t) (by omega : 0 < p)
    have d0 := div_nonneg n0 (by omega : 0 < p)
    by_cases c3 : fN r q s t / p ≥ b - l
    · rw [if_pos c3, if_pos c3]
      exact ⟨by omega, by omega, by omega, by omega, fun _ => rfl, hT⟩
    · rw [if_neg c3, if_neg c3]
      exact ⟨by omega, by omega, e2, e3, fun h => by omega, hT⟩
/-- Amounts tell Level and Part. -/
theorem amt_inj {l q l' q' p : Int} (q0 : 0 ≤ q) (q1 : q < p) (q0' : 0 ≤ q') (q1' : q' < p) (h : l * p + q = l' * p + q') : l = l' ∧ q = q' := by
  obtain ⟨a, b⟩ := div_uniq (n := l * p + q) (y := p) (q := l) (by omega) (by omega)
  obtain ⟨a', b'⟩ := div_uniq (n := l' * p + q') (y := p) (q := l') (by omega) (by omega)
  rw [h] at a b
  exact ⟨by omega, by omega⟩
theorem Refill_ok (k : Nat) (hk : 20 ≤ k) (hv : VB b r p l q s) (ht : U64 t) : bucket_Refill.f k b r p l q s t = some (b, r, p, fL b r p l q s t, fP b r p l q s t, fT s t, 0) := by
  unfold bucket_Refill.f
  rw [Check_ok hv]
  simp only [Option.bind_some, ↓reduceIte]
  rw [fill_ok k hk hv ht]
  rfl
theorem charge_valid (hv : VB b r p l q s) {c : Int} (hc : 0 ≤ c) (h : c ≤ l) : VB b r p (l - c) q s := by
  obtain ⟨hl, l0, l1, q0, q1, hf, hs⟩ := hv
  exact ⟨hl, by omega, by omega, q0, q1, fun e => hf (by omega), hs⟩
/-- The wait for a cost. -/
def wN (r p l q c : Int) : Int := cdiv ((c - l) * p - q) r
def waitOf (b r p l q s c : Int) : Int := if c ≤ l then 0 else if c > b ∨ r = 0 then 18446744073709551615 else if wN r p l q c > 18446744073709551615 - s then 18446744073709551615 else wN r p l q c
theorem miss_bd (hv : VB b r p l q s) {c : Int} (h1 : l < c) (h2 : c ≤ b) : 0 < (c - l) * p - q ∧ (c - l) * p ≤ 1000000000000000000 ∧ p ≤ (c - l) * p := by
  obtain ⟨⟨_, _, _, _, _, _⟩, _, _, _, _, _, _⟩ := hv
  have h := Int.mul_le_mul_of_nonneg_right (by omega : 1 ≤ c - l) (by omega : 0 ≤ p)
  have g := (mul_bd (by omega : 0 ≤ c - l) (by omega : c - l ≤ 1000000000) (by omega : 0 ≤ p) (by omega : p ≤ 1000000000)).2
  rw [Int.one_mul] at h
  omega
theorem cdiv_bd {n d : Int} (hd : 0 < d) (hn : 0 < n) : 0 < cdiv n d ∧ cdiv n d ≤ n ∧ n ≤ cdiv n d * d ∧ cdiv n d * d < n + d := by
  unfold cdiv
  obtain ⟨e1, e2⟩ := div_bd (n := n + d - 1) hd
  have h1 : 1 ≤ (n + d - 1) / d := le_div hd (by omega)
  have h2 : (n + d - 1) / d * 1 ≤ (n + d - 1) / d * d := Int.mul_le_mul_of_nonneg_left (by omega) (by omega)
  refine ⟨by omega, ?_, by omega, by omega⟩
  rcases Int.lt_or_le n ((n + d - 1) / d) with h | h
  · have h3 := Int.mul_le_mul_of_nonneg_right (by omega : n + 1 ≤ (n + d - 1) / d) (by omega : 0 ≤ d)
    rw [Int.add_mul, Int.one_mul] at h3
    have h4 : n * 1 ≤ n * d := Int.mul_le_mul_of_nonneg_left (by omega) (by omega)
    omega
  · exact h
theorem Wait_ok (k : Nat) (hk : 20 ≤ k) (hv : VB b r p l q s) {c : Int} (hc : 0 ≤ c) (hc1 : I64 c) : bucket_Wait.f k b r p l q s c = some (waitOf b r p l q s c, 0) := by
  unfold bucket_Wait.f waitOf
  rw [Check_ok hv]
  simp only [Option.bind_some, ↓reduceIte]
  rw [if_neg (by omega)]
  by_cases c1 : c ≤ l
  · rw [if_pos c1, if_pos c1]
  · rw [if_neg c1, if_neg c1]
    by_cases c2 : c > b
    · rw [if_pos c2, if_pos (.inl c2)]
    · rw [if_neg c2]
      by_cases c3 : r = 0
      · rw [if_pos c3, if_pos (.inr c3)]
      · rw [if_neg c3, if_neg (by omega)]
        obtain ⟨m0, m1, m2⟩ := miss_bd hv (by omega : l < c) (by omega : c ≤ b)
        obtain ⟨⟨b0, b1, r0, r1, p0, p1⟩, l0, l1, q0, q1, _, ⟨s0, s1⟩⟩ := hv
        have ur : U64 r := ⟨by omega, by omega⟩
        have uq : U64 q := ⟨by omega, by omega⟩
        have up : U64 p := ⟨by omega, by omega⟩
        have uc : U64 (c - l) := ⟨by omega, by omega⟩
        obtain ⟨d0, d1, d2, d3⟩ := cdiv_bd (by omega : 0 < r) m0
        rw [wrap64_id (x := c - l) (by omega) (by omega), wrap_id uc, wrap_id up, wrap_id uq, wrap_id ur, wide_Mul_ok uc up, wide_Of_ok]
        simp only [Option.bind_some]
        rw [wide_Sub_ok (U64_hi (by omega) (by omega)) U64_lo U64_zero uq (by rw [wv_of, wv_zero]; omega), wv_of, wv_zero]
        simp only [Option.bind_some]
        rw [wide_Up_ok k hk (U64_hi (by omega) (by omega)) U64_lo (by omega) ur.2, wv_of]
        simp only [Option.bind_some]
        have ew : cdiv ((c - l) * p - q) r = wN r p l q c := rfl
        rw [ew] at d0 d1 d2 d3 ⊢
        rw [wide_Small_ok (by omega)]
        simp only [Option.bind_some, ↓reduceIte]
        rw [wrap_id (x := 18446744073709551615 - s) ⟨by omega, by omega⟩, show wN r p l q c % 18446744073709551616 = wN r p l q c by omega]
        by_cases c4 : wN r p l q c > 18446744073709551615 - s
        · rw [if_pos c4, if_pos c4]
        · rw [if_neg c4, if_neg c4]
end
section
variable {b r p l q t s c : Int}
theorem ref_CheckLimit_ok (h : VL b r p) : spigotref03_CheckLimit.f b r p = some 0 := CheckLimit_ok h
theorem ref_CheckLimit_bad (h : ¬ VL b r p) : spigotref03_CheckLimit.f b r p = some 8 := CheckLimit_bad h
theorem ref_Check_ok (h : VB b r p l q s) : spigotref03_Check.f b r p l q s = some 0 := by
  obtain ⟨hl, h1, h2, h3, h4, h5, _⟩ := h
  unfold spigotref03_Check.f
  rw [ref_CheckLimit_ok hl]
  simp only [Option.bind_some, ↓reduceIte]
  rw [if_neg (by omega), if_neg (by omega), if_neg (by omega), if_neg (by omega)]
  by_cases c : l = b
  · rw [if_pos c, if_pos (h5 c)]
  · rw [if_neg c]
theorem ref_Check_bad (ht : U64 s) (h : ¬ VB b r p l q s) : spigotref03_Check.f b r p l q s = some 8 := by
  unfold spigotref03_Check.f
  by_cases hv : VL b r p
  · rw [ref_CheckLimit_ok hv]
    simp only [Option.bind_some, ↓reduceIte]
    have h' : ¬ (0 ≤ l ∧ l ≤ b ∧ 0 ≤ q ∧ q < p ∧ (l = b → q = 0)) := fun g => h ⟨hv, g.1, g.2.1, g.2.2.1, g.2.2.2.1, g.2.2.2.2, ht⟩
    repeat' split
    all_goals first | rfl | (exfalso; omega)
  · rw [ref_CheckLimit_bad hv]
    simp
end
section
variable {b r p l q t s c : Int}
/-- A bucket holds a cost exactly if its parts are enough. -/
theorem holds_iff {L P : Int} (p0 : 0 < p) (q0 : 0 ≤ P) (q1 : P < p) : c ≤ L ↔ c * p ≤ L * p + P := by
  constructor
  · intro h
    have := Int.mul_le_mul_of_nonneg_right h (by omega : 0 ≤ p)
    omega
  · intro h
    rcases Int.lt_or_le L c with g | g
    · have := Int.mul_le_mul_of_nonneg_right (by omega : L + 1 ≤ c) (by omega : 0 ≤ p)
      rw [Int.add_mul, Int.one_mul] at this
      omega
    · exact g
/-- Refilled at t, it holds the cost c, at most Burst, exactly if what came in is enough. -/
theorem fill_holds (hv : VB b r p l q s) (ht : U64 t) (h : s ≤ t) (hc : c ≤ b) : c ≤ fL b r p l q s t ↔ c * p ≤ l * p + q + (t - s) * r := by
  have hv' := fill_valid hv ht
  obtain ⟨f1, f2⟩ := fill_amt hv h
  obtain ⟨⟨_, _, _, _, p0, _⟩, _⟩ := hv
  obtain ⟨_, _, _, g0, g1, _⟩ := hv'
  rw [holds_iff (by omega) g0 g1]
  rcases Int.lt_or_le (l * p + q + (t - s) * r) (b * p) with g | g
  · rw [f1 g]
  · obtain ⟨e1, e2⟩ := f2 g
    rw [e1, e2]
    have := Int.mul_le_mul_of_nonneg_right hc (by omega : 0 ≤ p)
    omega
theorem fL_le (hv : VB b r p l q s) (ht : U64 t) : fL b r p l q s t ≤ b := (fill_valid hv ht).2.2.1
/-- What is known of the wait w for a cost c. -/
theorem wait_spec (hv : VB b r p l q s) (hc : 0 ≤ c) : 0 ≤ waitOf b r p l q s c ∧ (waitOf b r p l q s c = 18446744073709551615 → l < c ∧ ∀ t, U64 t → s ≤ t → fL b r p l q s t < c) ∧
    (waitOf b r p l q s c ≠ 18446744073709551615 → waitOf b r p l q s c ≤ 18446744073709551615 - s ∧ waitOf b r p l q s c ≤ 1000000000000000000 ∧ (waitOf b r p l q s c = 0 ↔ c ≤ l) ∧ c ≤ b ∧
      ∀ t, U64 t → s ≤ t → (c ≤ fL b r p l q s t ↔ waitOf b r p l q s c ≤ t - s)) := by
  have hv0 := hv
  obtain ⟨⟨b0, b1, r0, r1, p0, p1⟩, l0, l1, q0, q1, hf, ⟨s0, s1⟩⟩ := hv
  by_cases c1 : c ≤ l
  · have e : waitOf b r p l q s c = 0 := by unfold waitOf; rw [if_pos c1]
    rw [e]
    refine ⟨by omega, fun h => by omega, fun _ => ⟨by omega, by omega, ⟨fun _ => c1, fun _ => rfl⟩, by omega, fun t ht hst => ⟨fun _ => by omega, fun _ => ?_⟩⟩⟩
    rw [fill_holds hv0 ht hst (by omega)]
    have h1 := Int.mul_le_mul_of_nonneg_right c1 (by omega : 0 ≤ p)
    have h2 := Int.mul_nonneg (by omega : 0 ≤ t - s) r0
    omega
  · by_cases c2 : c > b ∨ r = 0
    · have e : waitOf b r p l q s c = 18446744073709551615 := by unfold waitOf; rw [if_neg c1, if_pos c2]
      rw [e]
      refine ⟨by omega, fun _ => ⟨by omega, fun t ht hst => ?_⟩, fun h => absurd rfl h⟩
      rcases c2 with c2 | c2
      · have := fL_le hv0 ht
        omega
      · rcases Int.lt_or_le b c with g | g
        · have := fL_le hv0 ht
          omega
        · have h := fill_holds hv0 ht hst g
          subst c2
          rw [Int.mul_zero] at h
          have h2 := holds_iff (p := p) (c := c) (L := l) (P := q) (by omega) q0 q1
          omega
    · have c2' : c ≤ b ∧ r ≠ 0 := by omega
      obtain ⟨m0, m1, m2⟩ := miss_bd hv0 (by omega : l < c) c2'.1
      obtain ⟨d0, d1, d2, d3⟩ := cdiv_bd (d := r) (by omega : 0 < r) m0
      have ew : cdiv ((c - l) * p - q) r = wN r p l q c := rfl
      rw [ew] at d0 d1 d2 d3
      rw [Int.sub_mul] at m0 m1 m2 d1 d2 d3
      have key : ∀ t, U64 t → s ≤ t → (c ≤ fL b r p l q s t ↔ wN r p l q c ≤ t - s) := by
        intro t ht hst
        rw [fill_holds hv0 ht hst c2'.1]
        constructor
        · intro h
          rcases Int.lt_or_le (t - s) (wN r p l q c) with g | g
          · have h3 := Int.mul_le_mul_of_nonneg_right (by omega : (t - s) + 1 ≤ wN r p l q c) r0
            rw [Int.add_mul, Int.one_mul] at h3
            omega
          · exact g
        · intro h
          have h3 := Int.mul_le_mul_of_nonneg_right h r0
          omega
      by_cases c4 : wN r p l q c > 18446744073709551615 - s
      · have e : waitOf b r p l q s c = 18446744073709551615 := by unfold waitOf; rw [if_neg c1, if_neg c2, if_pos c4]
        rw [e]
        refine ⟨by omega, fun _ => ⟨by omega, fun t ht hst => ?_⟩, fun h => absurd rfl h⟩
        have := key t ht hst
        have := ht.2
        omega
      · have e : waitOf b r p l q s c = wN r p l q c := by unfold waitOf; rw [if_neg c1, if_neg c2, if_neg c4]
        rw [e]
        exact ⟨by omega, fun h => by omega, fun _ => ⟨by omega, by omega, ⟨fun h => by omega, fun h => absurd h c1⟩, c2'.1, key⟩⟩
end
/-- A valid bucket; one whose fields are in their ranges; refilled; with a cost less. -/
def bV (x : S63) : Prop := VB x.f0.f0 x.f0.f1 x.f0.f2 x.f1 x.f2 x.f3
def bR (x : S63) : Prop := I64 x.f0.f0 ∧ I64 x.f0.f1 ∧ I64 x.f0.f2 ∧ I64 x.f1 ∧ I64 x.f2 ∧ U64 x.f3
def bfill (t : Int) (x : S63) : S63 := ⟨x.f0, fL x.f0.f0 x.f0.f1 x.f0.f2 x.f1 x.f2 x.f3 t, fP x.f0.f0 x.f0.f1 x.f0.f2 x.f1 x.f2 x.f3 t, fT x.f3 t⟩
def bsub (c : Int) (x : S63) : S63 := ⟨x.f0, x.f1 - c, x.f2, x.f3⟩
def bwait (c : Int) (x : S63) : Int := waitOf x.f0.f0 x.f0.f1 x.f0.f2 x.f1 x.f2 x.f3 c
theorem bfill_valid {t : Int} {x : S63} (h : bV x) (ht : U64 t) : bV (bfill t x) := fill_valid h ht
theorem bsub_valid {c : Int} {x : S63} (h : bV x) (h0 : 0 ≤ c) (h1 : c ≤ x.f1) : bV (bsub c x) := charge_valid h h0 h1
theorem bV_R {x : S63} (h : bV x) : bR x := by
  obtain ⟨⟨_, _, _, _, _, _⟩, _, _, _, _, _, _⟩ := h
  exact ⟨⟨by omega, by omega⟩, ⟨by omega, by omega⟩, ⟨by omega, by omega⟩, ⟨by omega, by omega⟩, ⟨by omega, by omega⟩, by assumption⟩
theorem rdB_at {l : List S63} {j : Nat} (h : j < l.length) : rd_T63 l (j : Int) = l[j] := by
  unfold rd_T63
  rw [List.getD_eq_getElem?_getD, Int.toNat_natCast, List.getElem?_eq_getElem h]
  rfl
theorem drop_cons {α : Type} {l : List α} {j : Nat} (h : j < l.length) : l.drop j = l[j] :: l.drop (j + 1) := List.drop_eq_getElem_cons h
/-! #### costs below 0 -/
theorem neg_idx (cs : List Int) (hn : cs.length ≤ 1000000) : ∀ (d j k : Nat), j + d = cs.length → d + 2 ≤ k → ∃ i : Int, slices_IndexFunc_int64_c64.l0 k cs (cs.length : Int) (j : Int) = some i ∧ (0 ≤ i ↔ ∃ c ∈ cs.drop j, c < 0) := by
  intro d
  induction d with
  | zero =>
    intro j k hj hk
    obtain ⟨k, rfl⟩ : ∃ m, k = m + 1 := ⟨k - 1, by omega⟩
    simp only [slices_IndexFunc_int64_c64.l0]
    rw [if_neg (by omega), List.drop_eq_nil_of_le (by omega)]
    exact ⟨-1, rfl, fun h => absurd h (by decide), fun ⟨_, h, _⟩ => by cases h⟩
  | succ d ih =>
    intro j k hj hk
    obtain ⟨k, rfl⟩ : ∃ m, k = m + 1 := ⟨k - 1, by omega⟩
    have hjl : j < cs.length := by omega
    simp only [slices_IndexFunc_int64_c64.l0]
    rw [if_pos (by omega), if_pos (by omega), if_pos (by omega), rd_at hjl, drop_cons hjl]
    simp only [levels_check_1.f, Option.bind_some]
    by_cases c : cs[j] < 0
    · rw [if_pos (decide_eq_true c)]
      exact ⟨j, rfl, fun _ => ⟨_, List.mem_cons_self, c⟩, fun _ => by omega⟩
    · rw [if_neg (by simpa using c), wj (by omega)]
      obtain ⟨i, e, h⟩ := ih (j + 1) k (by omega) (by omega)
      refine ⟨i, e, h.trans ⟨fun ⟨x, hx, h0⟩ => ⟨x, List.mem_cons_of_mem _ hx, h0⟩, fun ⟨x, hx, h0⟩ => ?_⟩⟩
      rcases List.mem_cons.1 hx with g | g
      · rw [g] at h0
        exact absurd h0 c
      · exact ⟨x, g, h0⟩
theorem neg_any (cs : List Int) (hn : cs.length ≤ 1000000) (k : Nat) (hk : cs.length + 2 ≤ k) (z : Int) : ∃ b, slices_ContainsFunc_int64_c64.f k cs z = some b ∧ (b = true ↔ ∃ c ∈ cs, c < 0) := by
  obtain ⟨i, e, h⟩ := neg_idx cs hn cs.length 0 k (by omega) (by omega)
  unfold slices_ContainsFunc_int64_c64.f slices_IndexFunc_int64_c64.f
  rw [show (0 : Int) = ((0 : Nat) : Int) from rfl, e]
  rw [List.drop_zero] at h
  exact ⟨_, rfl, by rw [decide_eq_true_iff]; exact h⟩
/-! #### checks -/
theorem check_many {l : List S63} (h : 8 < l.length) (k : Nat) (cs : List Int) : levels_check.f k l cs = some 4 := by
  unfold levels_check.f
  rw [if_pos (by omega)]
theorem check_loop (l : List S63) (cs : List Int) (hn : cs.length ≤ 1000000) (hl : l.length ≤ 8) : ∀ (d j k : Nat), j + d = l.length → d + cs.length + 4 ≤ k →
    ((∀ x ∈ l.drop j, bV x) → ∃ b, levels_check.l0 k l cs (l.length : Int) (j : Int) = some (if b = true then 2 else 0) ∧ (b = true ↔ ∃ c ∈ cs, c < 0)) ∧
    ((∀ x ∈ l, bR x) → ¬ (∀ x ∈ l.drop j, bV x) → levels_check.l0 k l cs (l.length : Int) (j : Int) = some 8) := by
  intro d
  induction d with
  | zero =>
    intro j k hj hk
    obtain ⟨k, rfl⟩ : ∃ m, k = m + 1 := ⟨k - 1, by omega⟩
    simp only [levels_check.l0]
    rw [if_neg (by omega), List.drop_eq_nil_of_le (by omega)]
    refine ⟨fun _ => ?_, fun _ h => absurd (fun x hx => by cases hx) h⟩
    obtain ⟨b, e, h⟩ := neg_any cs hn k (by omega) 0
    rw [e]
    refine ⟨b, ?_, h⟩
    simp only [Option.bind_some]
    split <;> rfl
  | succ d ih =>
    intro j k hj hk
    obtain ⟨k, rfl⟩ : ∃ m, k = m + 1 := ⟨k - 1, by omega⟩
    have hjl : j < l.length := by omega
    obtain ⟨i1, i2⟩ := ih (j + 1) k (by omega) (by omega)
    simp only [levels_check.l0]
    rw [if_pos (by omega), if_pos (by omega), if_pos (by omega), rdB_at hjl, drop_cons hjl, wj (by omega)]
    constructor
    · intro h
      rw [Check_ok (h _ List.mem_cons_self)]
      simp only [Option.bind_some, ↓reduceIte]
      exact i1 fun x hx => h x (List.mem_cons_of_mem _ hx)
    · intro hr h
      by_cases c : bV l[j]
      · rw [Check_ok c]
        simp only [Option.bind_some, ↓reduceIte]
        refine i2 hr fun g => h fun x hx => ?_
        rcases List.mem_cons.1 hx with e | e
        · rw [e]
          exact c
        · exact g x e
      · have hx := hr l[j] (List.getElem_mem hjl)
        rw [Check_bad hx.2.2.2.2.2 hx.2.2.2.1 c]
        rfl
/-- A valid row. -/
def lV (l : List S63) : Prop := l.length ≤ 8 ∧ ∀ x ∈ l, bV x
theorem check_ok {l : List S63} (h : lV l) (cs : List Int) (hn : cs.length ≤ 1000000) (k : Nat) (hk : cs.length + 12 ≤ k) (hc : ∀ c ∈ cs, 0 ≤ c) : levels_check.f k l cs = some 0 := by
  unfold levels_check.f
  obtain ⟨h1, h2⟩ := h
  rw [if_neg (by omega)]
  obtain ⟨b, e, g⟩ := (check_loop l cs hn h1 l.length 0 k (by omega) (by omega)).1 (by rw [List.drop_zero]; exact h2)
  rw [show (0 : Int) = ((0 : Nat) : Int) from rfl, e]
  have : ¬ b = true := fun hb => by obtain ⟨c, m, n⟩ := g.1 hb; have := hc c m; omega
  rw [if_neg this]
  rfl
theorem check_bad {l : List S63} (h1 : l.length ≤ 8) (hr : ∀ x ∈ l, bR x) (h : ¬ lV l) (cs : List Int) (hn : cs.length ≤ 1000000) (k : Nat) (hk : cs.length + 12 ≤ k) : levels_check.f k l cs = some 8 := by
  unfold levels_check.f
  rw [if_neg (by omega)]
  have e := (check_loop l cs hn h1 l.length 0 k (by omega) (by omega)).2 hr (by rw [List.drop_zero]; exact fun g => h ⟨h1, g⟩)
  rw [show (0 : Int) = ((0 : Nat) : Int) from rfl, e]
/-! #### refilling -/
theorem clone_ok {l : List S63} (h : l.length ≤ 1000000) : slices_Clone_api_Bucket.f l = some l := by
  unfold slices_Clone_api_Bucket.f
  simp only [Option.bind_some, List.length_nil, List.nil_append]
  rw [if_pos (by omega)]
theorem fill_loop (l : List S63) (t : Int) (ht : U64 t) (hn : l.length ≤ 1000000) (hv : ∀ x ∈ l, bV x) : ∀ (d j k : Nat), j + d = l.length → d + 25 ≤ k → levels_fill.l0 k t ((l.map (bfill t)).take j ++ l.drop j) (l.length : Int) (j : Int) = some (l.map (bfill t)) := by
  intro d
  induction d with
  | zero =>
    intro j k hj hk
    obtain ⟨k, rfl⟩ : ∃ m, k = m + 1 := ⟨k - 1, by omega⟩
    simp only [levels_fill.l0]
    rw [if_neg (by omega), List.drop_eq_nil_of_le (by omega), List.take_of_length_le (by rw [List.length_map]; omega), List.append_nil]
  | succ d ih =>
    intro j k hj hk
    obtain ⟨k, rfl⟩ : ∃ m, k = m + 1 := ⟨k - 1, by omega⟩
    have hjl : j < l.length := by omega
    have hlen := walk_len (bfill t) l j (by omega)
    have hj' : j < ((l.map (bfill t)).take j ++ l.drop j).length := by omega
    simp only [levels_fill.l0]
    rw [if_pos (by omega), if_pos (by omega), if_pos (by omega), rdB_at hj', walk_get (bfill t) l hjl hj']
    rw [Refill_ok k (by omega) (hv _ (List.getElem_mem hjl)) ht]
    simp only [Option.bind_some, Int.toNat_natCast]
    have e := set_walk (bfill t) l hjl
    unfold bfill at e
    rw [wj (by omega)]
    refine Eq.trans ?_ (ih (j + 1) k (by omega) (by omega))
    congr 1
theorem fill_row {l : List S63} {t : Int} (ht : U64 t) (hn : l.length ≤ 1000000) (hv : ∀ x ∈ l, bV x) (k : Nat) (hk : l.length + 25 ≤ k) : levels_fill.f k l t = some (l.map (bfill t)) := by
  unfold levels_fill.f
  rw [clone_ok hn]
  simp only [Option.bind_some]
  have e := fill_loop l t ht hn hv l.length 0 k (by omega) hk
  rw [List.take_zero, List.drop_zero, List.nil_append] at e
  exact e
def lHolds (l : List S63) (c : Int) : Bool := !(l.any fun b => decide (b.f1 < c))
theorem lHolds_iff {l : List S63} {c : Int} : lHolds l c = true ↔ ∀ x ∈ l, c ≤ x.f1 := by
  unfold lHolds
  rw [Bool.not_eq_true', List.any_eq_false]
  constructor
  · intro h x hx
    have := h x hx
    rw [decide_eq_true_iff] at this
    omega
  · intro h x hx
    have := h x hx
    rw [decide_eq_true_iff]
    omega
theorem holds_row (l : List S63) (c : Int) : levels_holds.f l c = some (lHolds l c) := rfl
def lTake (l : List S63) (t c : Int) : List S63 × Bool := if lHolds (l.map (bfill t)) c = true then ((l.map (bfill t)).map (bsub c), true) else (l.map (bfill t), false)
theorem bsub_wrap {c : Int} {x : S63} (h : bV x) (h0 : 0 ≤ c) (h1 : c ≤ x.f1) : wrap64 (x.f1 - c) = x.f1 - c := by
  obtain ⟨⟨_, _, _⟩, _, _, _⟩ := h
  exact wrap64_id (by omega) (by omega)
theorem take_loop (l : List S63) (c : Int) (h0 : 0 ≤ c) (hn : l.length ≤ 1000000) (hv : ∀ x ∈ l, bV x) (hc : ∀ x ∈ l, c ≤ x.f1) : ∀ (d j k : Nat), j + d = l.length → d + 1 ≤ k → levels_take.l0 k c ((l.map (bsub c)).take j ++ l.drop j) (l.length : Int) (j : Int) = some (l.map (bsub c), true) := by
  intro d
  induction d with
  | zero =>
    intro j k hj hk
    obtain ⟨k, rfl⟩ : ∃ m, k = m + 1 := ⟨k - 1, by omega⟩
    simp only [levels_take.l0]
    rw [if_neg (by omega), List.drop_eq_nil_of_le (by omega), List.take_of_length_le (by rw [List.length_map]; omega), List.append_nil]
  | succ d ih =>
    intro j k hj hk
    obtain ⟨k, rfl⟩ : ∃ m, k = m + 1 := ⟨k - 1, by omega⟩
    have hjl : j < l.length := by omega
    have hlen := walk_len (bsub c) l j (by omega)
    have hj' : j < ((l.map (bsub c)).take j ++ l.drop j).length := by omega
    simp only [levels_take.l0]
    rw [if_pos (by omega), if_pos (by omega), if_pos (by omega), rdB_at hj', walk_get (bsub c) l hjl hj', bsub_wrap (hv _ (List.getElem_mem hjl)) h0 (hc _ (List.getElem_mem hjl))]
    simp only [Int.toNat_natCast]
    have e := set_walk (bsub c) l hjl
    unfold bsub at e
    rw [wj (by omega)]
    refine Eq.trans ?_ (ih (j + 1) k (by omega) (by omega))
    congr 1
theorem map_valid {l : List S63} {t : Int} (ht : U64 t) (hv : ∀ x ∈ l, bV x) : ∀ x ∈ l.map (bfill t), bV x := by
  intro x hx
  obtain ⟨y, hy, rfl⟩ := List.mem_map.1 hx
  exact bfill_valid (hv y hy) ht
theorem take_row {l : List S63} {t c : Int} (ht : U64 t) (h0 : 0 ≤ c) (hn : l.length ≤ 1000000) (hv : ∀ x ∈ l, bV x) (k : Nat) (hk : l.length + 25 ≤ k) : levels_take.f k l t c = some (lTake l t c) := by
  unfold levels_take.f
  rw [fill_row ht hn hv k hk]
  simp only [Option.bind_some]
  rw [holds_row]
  simp only [Option.bind_some]
  unfold lTake
  by_cases g : lHolds (l.map (bfill t)) c = true
  · rw [if_pos g, if_pos g]
    have e := take_loop (l.map (bfill t)) c h0 (by rw [List.length_map]; exact hn) (map_valid ht hv) (lHolds_iff.1 g) (l.map (bfill t)).length 0 k (by omega) (by rw [List.length_map]; omega)
    rw [List.take_zero, List.drop_zero, List.nil_append] at e
    exact e
  · rw [if_neg g, if_neg g]
/-! #### the least level -/
theorem rcheck_loop (l : List S63) (hl : l.length ≤ 8) : ∀ (d j k : Nat), j + d = l.length → d + 1 ≤ k →
    ((∀ x ∈ l.drop j, bV x) → spigotref04_Check.l0 k l (j : Int) = some 0) ∧ ((∀ x ∈ l, bR x) → ¬ (∀ x ∈ l.drop j, bV x) → spigotref04_Check.l0 k l (j : Int) = some 8) := by
  intro d
  induction d with
  | zero =>
    intro j k hj hk
    obtain ⟨k, rfl⟩ : ∃ m, k = m + 1 := ⟨k - 1, by omega⟩
    simp only [spigotref04_Check.l0]
    rw [if_neg (by omega), List.drop_eq_nil_of_le (by omega)]
    exact ⟨fun _ => rfl, fun _ h => absurd (fun x hx => by cases hx) h⟩
  | succ d ih =>
    intro j k hj hk
    obtain ⟨k, rfl⟩ : ∃ m, k = m + 1 := ⟨k - 1, by omega⟩
    have hjl : j < l.length := by omega
    obtain ⟨i1, i2⟩ := ih (j + 1) k (by omega) (by omega)
    simp only [spigotref04_Check.l0]
    rw [if_pos (by omega), if_pos (by omega), rdB_at hjl, drop_cons hjl, wj (by omega)]
    constructor
    · intro h
      rw [ref_Check_ok (h _ List.mem_cons_self)]
      simp only [Option.bind_some, ↓reduceIte]
      exact i1 fun x hx => h x (List.mem_cons_of_mem _ hx)
    · intro hr h
      by_cases c : bV l[j]
      · rw [ref_Check_ok c]
        simp only [Option.bind_some, ↓reduceIte]
        refine i2 hr fun g => h fun x hx => ?_
        rcases List.mem_cons.1 hx with e | e
        · rw [e]
          exact c
        · exact g x e
      · have hx := hr l[j] (List.getElem_mem hjl)
        rw [ref_Check_bad hx.2.2.2.2.2 c]
        rfl
theorem rcheck_many {l : List S63} (h : 8 < l.length) (k : Nat) : spigotref04_Check.f k l = some 4 := by
  unfold spigotref04_Check.f
  rw [if_pos (by omega)]
theorem rcheck_ok {l : List S63} (h : lV l) (k : Nat) (hk : 12 ≤ k) : spigotref04_Check.f k l = some 0 := by
  unfold spigotref04_Check.f
  rw [if_neg (by have := h.1; omega)]
  exact (rcheck_loop l h.1 l.length 0 k (by omega) (by have := h.1; omega)).1 (by rw [List.drop_zero]; exact h.2)
theorem rcheck_bad {l : List S63} (h1 : l.length ≤ 8) (hr : ∀ x ∈ l, bR x) (h : ¬ lV l) (k : Nat) (hk : 12 ≤ k) : spigotref04_Check.f k l = some 8 := by
  unfold spigotref04_Check.f
  rw [if_neg (by omega)]
  exact (rcheck_loop l h1 l.length 0 k (by omega) (by omega)).2 hr (by rw [List.drop_zero]; exact fun g => h ⟨h1, g⟩)
/-- The error of a row: 4, 8, or 0. -/
theorem check_cases (l : List S63) (hr : ∀ x ∈ l, bR x) : lV l ∨ ∃ e : Int, e ≠ 0 ∧ ∀ (k : Nat) (cs : List Int), cs.length ≤ 1000000 → cs.length + 12 ≤ k → levels_check.f k l cs = some e ∧ spigotref04_Check.f k l = some e := by
  by_cases h : lV l
  · exact Or.inl h
  · refine Or.inr ?_
    by_cases h8 : 8 < l.length
    · exact ⟨4, by decide, fun k cs _ _ => ⟨check_many h8 k cs, rcheck_many h8 k⟩⟩
    · exact ⟨8, by decide, fun k cs hn hk => ⟨check_bad (by omega) hr h cs hn k hk, rcheck_bad (by omega) hr h k (by omega)⟩⟩
/-! #### the same row -/
theorem Take_row {l : List S63} {t c : Int} (hv : lV l) (ht : U64 t) (h0 : 0 ≤ c) (k : Nat) (hk : 60 ≤ k) : levels_Take.f k l t c = some ((lTake l t c).1, (lTake l t c).2, 0) := by
  unfold levels_Take.f
  rw [check_ok hv [c] (by simp) k (by simp; omega) (by simpa using h0)]
  simp only [Option.bind_some, ↓reduceIte]
  rw [take_row ht h0 (by have := hv.1; omega) hv.2 k (by have := hv.1; omega)]
  rfl
theorem lTake_valid {l : List S63} {t c : Int} (hv : lV l) (ht : U64 t) (h0 : 0 ≤ c) : lV (lTake l t c).1 ∧ (lTake l t c).1.length = l.length := by
  obtain ⟨h1, h2⟩ := hv
  have hm := map_valid ht h2
  unfold lTake
  by_cases g : lHolds (l.map (bfill t)) c = true
  · rw [if_pos g]
    refine ⟨⟨by simpa using h1, ?_⟩, by simp⟩
    intro x hx
    obtain ⟨y, hy, rfl⟩ := List.mem_map.1 hx
    exact bsub_valid (hm y hy) h0 (lHolds_iff.1 g y hy)
  · rw [if_neg g]
    exact ⟨⟨by simpa using h1, hm⟩, by simp⟩
def lRun : List Int → List Int → List S63 → List S63 × List Bool
  | t :: ts, c :: cs, l => ((lRun ts cs (lTake l t c).1).1, (lTake l t c).2 :: (lRun ts cs (lTake l t c).1).2)
  | _, _, l => (l, [])
section
variable {b r p l q s t u c : Int}
/-- The parts of a bucket, refilled at t. -/
def fA (b r p l q s t : Int) : Int := fL b r p l q s t * p + fP b r p l q s t
theorem fA_eq (hv : VB b r p l q s) : fA b r p l q s t = if t ≤ s then l * p + q else if l * p + q + (t - s) * r < b * p then l * p + q + (t - s) * r else b * p := by
  unfold fA
  by_cases h : t ≤ s
  · rw [if_pos h]
    unfold fL fP
    rw [if_pos h, if_pos h]
  · rw [if_neg h]
    obtain ⟨f1, f2⟩ := fill_amt hv (by omega : s ≤ t)
    by_cases g : l * p + q + (t - s) * r < b * p
    · rw [if_pos g, f1 g]
    · rw [if_neg g]
      obtain ⟨e1, e2⟩ := f2 (by omega)
      rw [e1, e2]
      omega
theorem amt_le (hv : VB b r p l q s) : 0 ≤ l * p + q ∧ l * p + q ≤ b * p := by
  obtain ⟨⟨b0, b1, r0, r1, p0, p1⟩, l0, l1, q0, q1, hf, hs⟩ := hv
  have h0 := Int.mul_nonneg l0 (by omega : 0 ≤ p)
  rcases Int.lt_or_le l b with g | g
  · have := Int.mul_le_mul_of_nonneg_right (by omega : l + 1 ≤ b) (by omega : 0 ≤ p)
    rw [Int.add_mul, Int.one_mul] at this
    omega
  · have e : l = b := by omega
    subst e
    have := hf rfl
    omega
/-- Level and Part are known by the parts. -/
theorem of_fA {b' r' l' q' s' t' : Int} (hv : VB b r p l q s) (hv' : VB b' r' p l' q' s') (ht : U64 t) (ht' : U64 t') (h : fA b r p l q s t = fA b' r' p l' q' s' t') : fL b r p l q s t = fL b' r' p l' q' s' t' ∧ fP b r p l q s t = fP b' r' p l' q' s' t' := by
  obtain ⟨_, _, _, a0, a1, _⟩ := fill_valid hv ht
  obtain ⟨_, _, _, b0, b1, _⟩ := fill_valid hv' ht'
  exact amt_inj a0 a1 b0 b1 h
theorem fill_fill (hv : VB b r p l q s) (hu : U64 u) (ht : U64 t) (h : u ≤ t) :
    fL b r p (fL b r p l q s u) (fP b r p l q s u) (fT s u) t = fL b r p l q s t ∧ fP b r p (fL b r p l q s u) (fP b r p l q s u) (fT s u) t = fP b r p l q s t ∧ fT (fT s u) t = fT s t := by
  have hw := fill_valid hv hu
  have e3 : fT (fT s u) t = fT s t := by unfold fT; split <;> split <;> (try split) <;> omega
  have key : fA b r p (fL b r p l q s u) (fP b r p l q s u) (fT s u) t = fA b r p l q s t := by
    rw [fA_eq hw, fA_eq hv]
    have e : fL b r p l q s u * p + fP b r p l q s u = fA b r p l q s u := rfl
    rw [e, fA_eq hv]
    have r0 := hv.1.2.2.1
    by_cases c1 : u ≤ s
    · have e2 : fT s u = s := by unfold fT; rw [if_pos c1]
      rw [if_pos c1, e2]
    · have e2 : fT s u = u := by unfold fT; rw [if_neg c1]
      rw [if_neg c1, e2]
      have m1 : (t - s) * r = (u - s) * r + (t - u) * r := by rw [← Int.add_mul]; congr 1; omega
      have m2 := Int.mul_nonneg (by omega : 0 ≤ t - u) r0
      have m3 := Int.mul_nonneg (by omega : 0 ≤ u - s) r0
      by_cases c2 : t ≤ u
      · have e4 : t = u := by omega
        subst e4
        rw [if_pos (Int.le_refl _), if_neg c1]
      · rw [if_neg c2, if_neg (show ¬ t ≤ s by omega)]
        split <;> split <;> (try split) <;> omega
  obtain ⟨e1, e2⟩ := of_fA hw hv ht ht key
  exact ⟨e1, e2, e3⟩
/-- More parts stay more. -/
theorem fA_mono {l' q' : Int} (hv : VB b r p l q s) (hv' : VB b r p l' q' s) (h : l * p + q ≤ l' * p + q') : fA b r p l q s t ≤ fA b r p l' q' s t := by
  rw [fA_eq hv, fA_eq hv']
  have := amt_le hv'
  split
  · exact h
  · split <;> split <;> omega
/-- What is left of a bucket that gave c is, refilled, no less than the bucket, refilled, less c. -/
theorem fA_take (hv : VB b r p l q s) (h0 : 0 ≤ c) (h1 : c ≤ l) : fA b r p l q s t - c * p ≤ fA b r p (l - c) q s t := by
  have ec : (l - c) * p = l * p - c * p := Int.sub_mul ..
  rw [fA_eq hv, fA_eq (charge_valid hv h0 h1)]
  have := Int.mul_nonneg h0 (by have := hv.1.2.2.2.2.1; omega : 0 ≤ p)
  split
  · omega
  · split <;> split <;> omega
/-- A bucket holds a cost exactly if its parts are enough. -/
theorem fL_iff (hv : VB b r p l q s) (ht : U64 t) : c ≤ fL b r p l q s t ↔ c * p ≤ fA b r p l q s t := by
  obtain ⟨⟨_, _, _, _, p0, _⟩, _, _, a0, a1, _⟩ := fill_valid hv ht
  unfold fA
  constructor
  · intro h
    have := Int.mul_le_mul_of_nonneg_right h (by omega : 0 ≤ p)
    omega
  · intro h
    rcases Int.lt_or_le (fL b r p l q s t) c with g | g
    · have := Int.mul_le_mul_of_nonneg_right (by omega : fL b r p l q s t + 1 ≤ c) (by omega : 0 ≤ p)
      rw [Int.add_mul, Int.one_mul] at this
      omega
    · exact g
end
/-- The parts of a bucket, refilled at t. -/
def bA (t : Int) (x : S63) : Int := fA x.f0.f0 x.f0.f1 x.f0.f2 x.f1 x.f2 x.f3 t
theorem bfill_fill {x : S63} {u t : Int} (hv : bV x) (hu : U64 u) (ht : U64 t) (h : u ≤ t) : bfill t (bfill u x) = bfill t x := by
  obtain ⟨e1, e2, e3⟩ := fill_fill hv hu ht h
  unfold bfill
  simp only
  rw [e1, e2, e3]
theorem bA_fill {x : S63} {u t : Int} (hv : bV x) (hu : U64 u) (ht : U64 t) (h : u ≤ t) : bA t (bfill u x) = bA t x := by
  have e := bfill_fill hv hu ht h
  have e1 : (bfill t (bfill u x)).f1 = (bfill t x).f1 := by rw [e]
  have e2 : (bfill t (bfill u x)).f2 = (bfill t x).f2 := by rw [e]
  show (bfill t (bfill u x)).f1 * x.f0.f2 + (bfill t (bfill u x)).f2 = (bfill t x).f1 * x.f0.f2 + (bfill t x).f2
  rw [e1, e2]
/-- The bucket holds the cost, refilled at t. -/
def bH (c t : Int) (x : S63) : Prop := c ≤ (bfill t x).f1
theorem bH_iff {x : S63} {c t : Int} (hv : bV x) (ht : U64 t) : bH c t x ↔ c * x.f0.f2 ≤ bA t x := fL_iff hv ht
theorem bH_mono {x : S63} {c u t : Int} (hv : bV x) (hu : U64 u) (ht : U64 t) (h : u ≤ t) (g : bH c u x) : bH c t x := by
  have hw := bfill_valid hv hu
  have e := bfill_fill hv hu ht h
  have hs : bH c t (bfill u x) := by
    rw [bH_iff hw ht]
    have h1 : bA t (bfill u x) = if t ≤ (bfill u x).f3 then (bfill u x).f1 * x.f0.f2 + (bfill u x).f2 else if (bfill u x).f1 * x.f0.f2 + (bfill u x).f2 + (t - (bfill u x).f3) * x.f0.f1 < x.f0.f0 * x.f0.f2 then (bfill u x).f1 * x.f0.f2 + (bfill u x).f2 + (t - (bfill u x).f3) * x.f0.f1 else x.f0.f0 * x.f0.f2 := fA_eq hw
    rw [h1]
    have a0 := amt_le hw
    have a1 : (bfill u x).f1 * x.f0.f2 + (bfill u x).f2 ≤ x.f0.f0 * x.f0.f2 := a0.2
    have p0 : 0 < x.f0.f2 := by have := hv.1.2.2.2.2.1; omega
    have r0 : 0 ≤ x.f0.f1 := hv.1.2.2.1
    have q0 : 0 ≤ (bfill u x).f2 := hw.2.2.2.1
    have m := Int.mul_le_mul_of_nonneg_right (show c ≤ (bfill u x).f1 from g) (by omega : 0 ≤ x.f0.f2)
    show c * x.f0.f2 ≤ _
    by_cases c1 : t ≤ (bfill u x).f3
    · rw [if_pos c1]
      omega
    · rw [if_neg c1]
      have m2 := Int.mul_nonneg (by omega : 0 ≤ t - (bfill u x).f3) r0
      split <;> omega
  unfold bH at hs ⊢
  rw [e] at hs
  exact hs
/-! #### the first tick -/
def lFirst (c now : Int) : List S63 → Int → Option Int
  | [], tick => some tick
  | x :: l, tick => if bwait c (bfill now x) = 0 then lFirst c now l tick else if bwait c (bfill now x) = 18446744073709551615 then none else lFirst c now l (mx tick ((bfill now x).f3 + bwait c (bfill now x)))
/-- What is known of one bucket's wait from now. -/
theorem bfirst {x : S63} {c now : Int} (hv : bV x) (hn : U64 now) (h0 : 0 ≤ c) :
    0 ≤ bwait c (bfill now x) ∧ (bwait c (bfill now x) = 0 → ∀ t, U64 t → now ≤ t → bH c t x) ∧ (bwait c (bfill now x) = 18446744073709551615 → ∀ t, U64 t → ¬ bH c t x) ∧
    (bwait c (bfill now x) ≠ 0 → bwait c (bfill now x) ≠ 18446744073709551615 → U64 ((bfill now x).f3 + bwait c (bfill now x)) ∧ ∀ t, U64 t → now ≤ t → (bH c t x ↔ (bfill now x).f3 + bwait c (bfill now x) ≤ t)) := by
  have hw := bfill_valid hv hn
  have hs : U64 x.f3 := hv.2.2.2.2.2.2
  have hf : (bfill now x).f3 = fT x.f3 now := rfl
  have hfu : U64 (bfill now x).f3 := hw.2.2.2.2.2.2
  have hge : now ≤ (bfill now x).f3 := by rw [hf]; unfold fT; split <;> omega
  obtain ⟨w0, w1, w2⟩ := wait_spec (c := c) hw h0
  have ew : waitOf (bfill now x).f0.f0 (bfill now x).f0.f1 (bfill now x).f0.f2 (bfill now x).f1 (bfill now x).f2 (bfill now x).f3 c = bwait c (bfill now x) := rfl
  rw [ew] at w0 w1 w2
  -- refilled at a tick from now on it is as it would be
  have same : ∀ t, U64 t → now ≤ t → (bH c t x ↔ c ≤ fL (bfill now x).f0.f0 (bfill now x).f0.f1 (bfill now x).f0.f2 (bfill now x).f1 (bfill now x).f2 (bfill now x).f3 t) := by
    intro t ht hnt
    have e := bfill_fill hv hn ht hnt
    have e1 : (bfill t (bfill now x)).f1 = (bfill t x).f1 := by rw [e]
    unfold bH
    rw [← e1]
    exact Iff.rfl
  -- before its own tick nothing comes in
  have early : ∀ t, t ≤ (bfill now x).f3 → fL (bfill now x).f0.f0 (bfill now x).f0.f1 (bfill now x).f0.f2 (bfill now x).f1 (bfill now x).f2 (bfill now x).f3 t = (bfill now x).f1 := by
    intro t h
    unfold fL
    rw [if_pos h]
  have um : U64 18446744073709551615 := ⟨by decide, by decide⟩
  obtain ⟨n0, n1⟩ := hn
  obtain ⟨f0, f1⟩ := hfu
  refine ⟨w0, ?_, ?_, ?_⟩
  · intro z t ht hnt
    obtain ⟨g1, g2, g3, g4, g5⟩ := w2 (by omega)
    rw [same t ht hnt]
    rcases Int.lt_or_le t (bfill now x).f3 with g | g
    · rw [early t (by omega)]
      exact g3.1 z
    · exact (g5 t ht g).2 (by omega)
  · intro z t ht hb
    obtain ⟨g1, g2⟩ := w1 z
    have hm := bH_mono hv ht um (by have := ht.2; omega) hb
    rw [same _ um (by omega)] at hm
    have := g2 _ um (by omega)
    omega
  · intro z z'
    obtain ⟨g1, g2, g3, g4, g5⟩ := w2 z'
    refine ⟨⟨by omega, by omega⟩, fun t ht hnt => ?_⟩
    rw [same t ht hnt]
    rcases Int.lt_or_le t (bfill now x).f3 with g | g
    · rw [early t (by omega)]
      exact ⟨fun h => absurd (g3.2 h) z, fun h => by omega⟩
    · exact (g5 t ht g).trans ⟨fun h => by omega, fun h => by omega⟩
theorem lFirst_spec {c now : Int} (hn : U64 now) (h0 : 0 ≤ c) : ∀ (l : List S63) (tick : Int), (∀ x ∈ l, bV x) → U64 tick →
    match lFirst c now l tick with
    | none => ∃ x ∈ l, ∀ t, U64 t → ¬ bH c t x
    | some T => U64 T ∧ tick ≤ T ∧ ∀ t, U64 t → now ≤ t → ((tick ≤ t ∧ ∀ x ∈ l, bH c t x) ↔ T ≤ t) := by
  intro l
  induction l with
  | nil =>
    intro tick _ ht
    exact ⟨ht, Int.le_refl _, fun t _ _ => ⟨fun h => h.1, fun h => ⟨h, fun x hx => by cases hx⟩⟩⟩
  | cons x l ih =>
    intro tick hv ht
    have hvl : ∀ y ∈ l, bV y := fun y hy => hv y (List.mem_cons_of_mem _ hy)
    obtain ⟨b0, b1, b2, b3⟩ := bfirst (c := c) (hv x List.mem_cons_self) hn h0
    unfold lFirst
    by_cases z : bwait c (bfill now x) = 0
    · rw [if_pos z]
      have hi := ih tick hvl ht
      cases e : lFirst c now l tick with
      | none =>
        rw [e] at hi
        obtain ⟨y, hy, h⟩ := hi
        exact ⟨y, List.mem_cons_of_mem _ hy, h⟩
      | some T =>
        rw [e] at hi
        obtain ⟨i1, i2, i3⟩ := hi
        refine ⟨i1, i2, fun t htt hnt => ?_⟩
        rw [List.forall_mem_cons, ← i3 t htt hnt]
        exact ⟨fun h => ⟨h.1, h.2.2⟩, fun h => ⟨h.1, b1 z t htt hnt, h.2⟩⟩
    · rw [if_neg z]
      by_cases m : bwait c (bfill now x) = 18446744073709551615
      · rw [if_pos m]
        exact ⟨x, List.mem_cons_self, b2 m⟩
      · rw [if_neg m]
        obtain ⟨u1, u2⟩ := b3 z m
        have hmx : U64 (mx tick ((bfill now x).f3 + bwait c (bfill now x))) := by unfold mx; split <;> assumption
        have hle : ∀ t, mx tick ((bfill now x).f3 + bwait c (bfill now x)) ≤ t ↔ tick ≤ t ∧ (bfill now x).f3 + bwait c (bfill now x) ≤ t := by intro t; unfold mx; split <;> omega
        have hi := ih _ hvl hmx
        cases e : lFirst c now l (mx tick ((bfill now x).f3 + bwait c (bfill now x))) with
        | none =>
          rw [e] at hi
          obtain ⟨y, hy, h⟩ := hi
          exact ⟨y, List.mem_cons_of_mem _ hy, h⟩
        | some T =>
          rw [e] at hi
          obtain ⟨i1, i2, i3⟩ := hi
          refine ⟨i1, ((hle T).1 i2).1, fun t htt hnt => ?_⟩
          rw [List.forall_mem_cons, ← i3 t htt hnt, hle, u2 t htt hnt]
          exact ⟨fun h => ⟨⟨h.1, h.2.1⟩, h.2.2⟩, fun h => ⟨h.1.1, h.1.2, h.2⟩⟩
def lPlan : List Int → Int → List S63 → List Int × List S63
  | [], _, l => ([], l)
  | c :: cs, now, l => match lFirst c now l now with
    | none => ([], l)
    | some T => (T :: (lPlan cs T (lTake l T c).1).1, (lPlan cs T (lTake l T c).1).2)
theorem lPlan_some {c now T : Int} {cs : List Int} {l : List S63} (e : lFirst c now l now = some T) : lPlan (c :: cs) now l = (T :: (lPlan cs T (lTake l T c).1).1, (lPlan cs T (lTake l T c).1).2) := by
  rw [lPlan, e]
def lFits : List Int → List Int → Int → List S63 → Bool
  | t :: ts, c :: cs, now, l => decide (now ≤ t) && ((lTake l t c).2 && lFits ts cs t (lTake l t c).1)
  | _, _, _, _ => true
theorem lTake_snd (l : List S63) (t c : Int) : (lTake l t c).2 = lHolds (l.map (bfill t)) c := by
  unfold lTake
  by_cases g : lHolds (l.map (bfill t)) c = true
  · rw [if_pos g, g]
  · rw [if_neg g]
    simpa using g
theorem lTake_fst {l : List S63} {t c : Int} (g : ∀ x ∈ l, bH c t x) : (lTake l t c).1 = l.map (fun x => bsub c (bfill t x)) := by
  have g' : lHolds (l.map (bfill t)) c = true := by
    rw [lHolds_iff]
    intro y hy
    obtain ⟨x, hx, rfl⟩ := List.mem_map.1 hy
    exact g x hx
  unfold lTake
  rw [if_pos g', List.map_map]
  rfl
theorem holds_all {l : List S63} {t c : Int} : lHolds (l.map (bfill t)) c = true ↔ ∀ x ∈ l, bH c t x := by
  rw [lHolds_iff]
  exact ⟨fun h x hx => h _ (List.mem_map.2 ⟨x, hx, rfl⟩), fun h y hy => by obtain ⟨x, hx, rfl⟩ := List.mem_map.1 hy; exact h x hx⟩
theorem first_some {l : List S63} {c now T : Int} (hv : ∀ x ∈ l, bV x) (hn : U64 now) (h0 : 0 ≤ c) (e : lFirst c now l now = some T) :
    U64 T ∧ now ≤ T ∧ (∀ x ∈ l, bH c T x) ∧ ∀ t, U64 t → now ≤ t → ((∀ x ∈ l, bH c t x) ↔ T ≤ t) := by
  have h := lFirst_spec hn h0 l now hv hn
  rw [e] at h
  obtain ⟨h1, h2, h3⟩ := h
  exact ⟨h1, h2, ((h3 T h1 h2).2 (Int.le_refl _)).2, fun t ht hnt => ⟨fun g => (h3 t ht hnt).1 ⟨hnt, g⟩, fun g => ((h3 t ht hnt).2 g).2⟩⟩
theorem first_none {l : List S63} {c now : Int} (hv : ∀ x ∈ l, bV x) (hn : U64 now) (h0 : 0 ≤ c) (e : lFirst c now l now = none) : ∀ t, U64 t → ¬ ∀ x ∈ l, bH c t x := by
  have h := lFirst_spec hn h0 l now hv hn
  rw [e] at h
  obtain ⟨x, hx, h⟩ := h
  exact fun t ht g => h t ht (g x hx)
theorem plan_valid : ∀ (cs : List Int) (now : Int) (l : List S63), lV l → U64 now → (∀ c ∈ cs, 0 ≤ c) →
    lV (lPlan cs now l).2 ∧ (lPlan cs now l).2.length = l.length ∧ (∀ t ∈ (lPlan cs now l).1, U64 t) ∧ (lPlan cs now l).1.length ≤ cs.length := by
  intro cs
  induction cs with
  | nil => exact fun now l hv hn hc => ⟨hv, rfl, fun t ht => (by cases ht), Nat.le_refl _⟩
  | cons c cs ih =>
    intro now l hv hn hc
    have c0 := hc c List.mem_cons_self
    unfold lPlan
    cases e : lFirst c now l now with
    | none => exact ⟨hv, rfl, fun t ht => (by cases ht), Nat.zero_le _⟩
    | some T =>
      obtain ⟨hT, _⟩ := first_some hv.2 hn c0 e
      obtain ⟨v1, v2⟩ := lTake_valid hv hT c0
      obtain ⟨i1, i2, i3, i4⟩ := ih T (lTake l T c).1 v1 hT fun x hx => hc x (List.mem_cons_of_mem _ hx)
      refine ⟨i1, i2.trans v2, ?_, by simp; exact i4⟩
      intro t ht
      rcases List.mem_cons.1 ht with rfl | h
      · exact hT
      · exact i3 t h
theorem plan_fits : ∀ (cs : List Int) (now : Int) (l : List S63), lV l → U64 now → (∀ c ∈ cs, 0 ≤ c) → (lPlan cs now l).1.length = cs.length →
    lFits (lPlan cs now l).1 cs now l = true ∧ (lRun (lPlan cs now l).1 cs l).1 = (lPlan cs now l).2 ∧ (∀ b ∈ (lRun (lPlan cs now l).1 cs l).2, b = true) := by
  intro cs
  induction cs with
  | nil => exact fun now l hv hn hc _ => ⟨rfl, rfl, fun b hb => (by cases hb)⟩
  | cons c cs ih =>
    intro now l hv hn hc
    have c0 := hc c List.mem_cons_self
    unfold lPlan
    cases e : lFirst c now l now with
    | none => intro h; simp at h
    | some T =>
      intro h
      obtain ⟨hT, h1, h2, _⟩ := first_some hv.2 hn c0 e
      obtain ⟨v1, v2⟩ := lTake_valid hv hT c0
      obtain ⟨i1, i2, i3⟩ := ih T (lTake l T c).1 v1 hT (fun x hx => hc x (List.mem_cons_of_mem _ hx)) (by simpa using h)
      have t2 : (lTake l T c).2 = true := by rw [lTake_snd, holds_all]; exact h2
      refine ⟨?_, i2, ?_⟩
      · simp only [lFits]
        rw [i1, t2, decide_eq_true h1]
        rfl
      · intro b hb
        simp only [lRun] at hb
        rcases List.mem_cons.1 hb with rfl | g
        · exact t2
        · exact i3 b g
def ge (t : Int) (x y : S63) : Prop := bV x ∧ bV y ∧ x.f0 = y.f0 ∧ fT x.f3 t = fT y.f3 t ∧ bA t y ≤ bA t x
theorem ge_refl {t : Int} {x : S63} (h : bV x) : ge t x x := ⟨h, h, rfl, rfl, Int.le_refl _⟩
theorem fT_fT {s u t : Int} (h : u ≤ t) : fT (fT s u) t = fT s t := by unfold fT; split <;> split <;> (try split) <;> omega
theorem ge_mono {u t : Int} {x y : S63} (hu : U64 u) (ht : U64 t) (h : u ≤ t) (g : ge u x y) : ge t x y := by
  obtain ⟨hx, hy, e0, e3, ha⟩ := g
  refine ⟨hx, hy, e0, by rw [← fT_fT h, e3, fT_fT h], ?_⟩
  have wx := bfill_valid hx hu
  have wy := bfill_valid hy hu
  rw [← bA_fill hx hu ht h, ← bA_fill hy hu ht h]
  unfold bV at wx wy
  have f0x : (bfill u x).f0 = x.f0 := rfl
  have f0y : (bfill u y).f0 = x.f0 := by rw [e0]; rfl
  have f3x : (bfill u x).f3 = fT x.f3 u := rfl
  have f3y : (bfill u y).f3 = fT x.f3 u := by rw [e3]; rfl
  rw [f0x, f3x] at wx
  rw [f0y, f3y] at wy
  have key := fA_mono (t := t) wy wx (by
    have h1 : bA u y = (bfill u y).f1 * y.f0.f2 + (bfill u y).f2 := rfl
    have h2 : bA u x = (bfill u x).f1 * x.f0.f2 + (bfill u x).f2 := rfl
    rw [← e0] at h1
    omega)
  show fA (bfill u y).f0.f0 (bfill u y).f0.f1 (bfill u y).f0.f2 (bfill u y).f1 (bfill u y).f2 (bfill u y).f3 t ≤ fA (bfill u x).f0.f0 (bfill u x).f0.f1 (bfill u x).f0.f2 (bfill u x).f1 (bfill u x).f2 (bfill u x).f3 t
  rw [f0x, f0y, f3x, f3y]
  exact key
theorem ge_hold {t c : Int} {x y : S63} (ht : U64 t) (g : ge t x y) (h : bH c t y) : bH c t x := by
  obtain ⟨hx, hy, e0, _, ha⟩ := g
  rw [bH_iff hx ht]
  rw [bH_iff hy ht, ← e0] at h
  omega
theorem bfill_sub_same {t c : Int} {y : S63} : bA t (bsub c (bfill t y)) = bA t y - c * y.f0.f2 := by
  have h3 : t ≤ (bfill t y).f3 := by show t ≤ fT y.f3 t; unfold fT; split <;> omega
  show fL y.f0.f0 y.f0.f1 y.f0.f2 ((bfill t y).f1 - c) (bfill t y).f2 (bfill t y).f3 t * y.f0.f2 + fP y.f0.f0 y.f0.f1 y.f0.f2 ((bfill t y).f1 - c) (bfill t y).f2 (bfill t y).f3 t = ((bfill t y).f1 * y.f0.f2 + (bfill t y).f2) - c * y.f0.f2
  unfold fL fP
  rw [if_pos h3, if_pos h3, Int.sub_mul]
  omega
theorem ge_take {T t c : Int} {x y : S63} (hT : U64 T) (ht : U64 t) (h : T ≤ t) (h0 : 0 ≤ c) (g : ge t x y) (hx : bH c T x) (hy : bH c t y) : ge t (bsub c (bfill T x)) (bsub c (bfill t y)) := by
  obtain ⟨vx, vy, e0, e3, ha⟩ := g
  have wx := bfill_valid vx hT
  refine ⟨bsub_valid wx h0 hx, bsub_valid (bfill_valid vy ht) h0 hy, e0, ?_, ?_⟩
  · show fT (fT x.f3 T) t = fT (fT y.f3 t) t
    rw [fT_fT h, fT_fT (Int.le_refl t), e3]
  · rw [bfill_sub_same, ← e0]
    have k := fA_take (t := t) wx h0 hx
    have k1 : fA (bfill T x).f0.f0 (bfill T x).f0.f1 (bfill T x).f0.f2 (bfill T x).f1 (bfill T x).f2 (bfill T x).f3 t = bA t x := bA_fill vx hT ht h
    rw [k1] at k
    have k2 : bA t (bsub c (bfill T x)) = fA (bfill T x).f0.f0 (bfill T x).f0.f1 (bfill T x).f0.f2 ((bfill T x).f1 - c) (bfill T x).f2 (bfill T x).f3 t := rfl
    have k3 : (bfill T x).f0.f2 = x.f0.f2 := rfl
    rw [k3] at k
    rw [k3] at k2
    rw [k2]
    omega
def geL (t : Int) : List S63 → List S63 → Prop
  | [], [] => True
  | x :: l, y :: m => ge t x y ∧ geL t l m
  | _, _ => False
theorem geL_refl {t : Int} : ∀ {l : List S63}, (∀ x ∈ l, bV x) → geL t l l
  | [], _ => trivial
  | x :: l, h => ⟨ge_refl (h x List.mem_cons_self), geL_refl fun y hy => h y (List.mem_cons_of_mem _ hy)⟩
theorem geL_map {t t' : Int} {f g : S63 → S63} : ∀ {l m : List S63}, geL t l m → (∀ x ∈ l, ∀ y ∈ m, ge t x y → ge t' (f x) (g y)) → geL t' (l.map f) (m.map g)
  | [], [], _, _ => trivial
  | x :: l, y :: m, h, k => ⟨k x List.mem_cons_self y List.mem_cons_self h.1, geL_map h.2 fun a ha b hb => k a (List.mem_cons_of_mem _ ha) b (List.mem_cons_of_mem _ hb)⟩
theorem geL_mono {u t : Int} (hu : U64 u) (ht : U64 t) (h : u ≤ t) : ∀ {l m : List S63}, geL u l m → geL t l m
  | [], [], _ => trivial
  | _ :: _, _ :: _, g => ⟨ge_mono hu ht h g.1, geL_mono hu ht h g.2⟩
theorem geL_hold {t c : Int} (ht : U64 t) : ∀ {l m : List S63}, geL t l m → (∀ y ∈ m, bH c t y) → ∀ x ∈ l, bH c t x
  | [], [], _, _ => fun x hx => by cases hx
  | x :: l, y :: m, g, h => fun z hz => by
    rcases List.mem_cons.1 hz with e | hz
    · rw [e]
      exact ge_hold ht g.1 (h y List.mem_cons_self)
    · exact geL_hold ht g.2 (fun b hb => h b (List.mem_cons_of_mem _ hb)) z hz
theorem fits_cons {t c now : Int} {ts cs : List Int} {m : List S63} (h : lFits (t :: ts) (c :: cs) now m = true) : now ≤ t ∧ (∀ y ∈ m, bH c t y) ∧ lFits ts cs t (lTake m t c).1 = true := by
  simp only [lFits, Bool.and_eq_true, decide_eq_true_eq] at h
  obtain ⟨h1, h2, h3⟩ := h
  rw [lTake_snd, holds_all] at h2
  exact ⟨h1, h2, h3⟩
/-- If any ticks fit a row that has no more, there is a plan, and its ticks are none greater. -/
theorem earliest : ∀ (cs ts : List Int) (now tau : Int) (l m : List S63), lV l → lV m → U64 now → U64 tau → (∀ c ∈ cs, 0 ≤ c) → (∀ t ∈ ts, U64 t) → ts.length = cs.length → now ≤ tau → geL tau l m → lFits ts cs tau m = true →
    (lPlan cs now l).1.length = cs.length ∧ ∀ (i : Nat) (h : i < (lPlan cs now l).1.length) (h' : i < ts.length), (lPlan cs now l).1[i] ≤ ts[i] := by
  intro cs
  induction cs with
  | nil => exact fun ts now tau l m _ _ _ _ _ _ _ _ _ _ => ⟨rfl, fun i h => by simp [lPlan] at h⟩
  | cons c cs ih =>
    intro ts now tau l m hl hm hn hu hc hts hlen hle hg hf
    cases ts with
    | nil => simp at hlen
    | cons t ts =>
      have c0 := hc c List.mem_cons_self
      have ht := hts t List.mem_cons_self
      obtain ⟨f1, f2, f3⟩ := fits_cons hf
      have g1 := geL_mono hu ht f1 hg
      have hh := geL_hold ht g1 f2
      cases e : lFirst c now l now with
      | none => exact absurd hh (first_none hl.2 hn c0 e t ht)
      | some T =>
        rw [lPlan_some e]
        obtain ⟨hT, h1, h2, h3⟩ := first_some hl.2 hn c0 e
        have hTt : T ≤ t := (h3 t ht (by omega)).1 hh
        obtain ⟨v1, v2⟩ := lTake_valid hl hT c0
        obtain ⟨v3, v4⟩ := lTake_valid hm ht c0
        have g2 : geL t (lTake l T c).1 (lTake m t c).1 := by
          rw [lTake_fst h2, lTake_fst f2]
          exact geL_map g1 fun x hx y hy g => ge_take hT ht hTt c0 g (h2 x hx) (f2 y hy)
        obtain ⟨i1, i2⟩ := ih ts T t _ _ v1 v3 hT ht (fun x hx => hc x (List.mem_cons_of_mem _ hx)) (fun x hx => hts x (List.mem_cons_of_mem _ hx)) (by simpa using hlen) hTt g2 f3
        refine ⟨by simp [i1], fun i h h' => ?_⟩
        cases i with
        | zero => simpa using hTt
        | succ i =>
          simp only [List.getElem_cons_succ]
          exact i2 i (by simpa using h) (by simpa using h')
/-- What fits a row fits it without one of its buckets. -/
theorem fits_less : ∀ (ts cs : List Int) (now : Int) (a : List S63) (x : S63) (b : List S63), lFits ts cs now (a ++ x :: b) = true → lFits ts cs now (a ++ b) = true := by
  intro ts
  induction ts with
  | nil => intro cs now a x b _; cases cs <;> rfl
  | cons t ts ih =>
    intro cs now a x b h
    cases cs with
    | nil => rfl
    | cons c cs =>
      obtain ⟨h1, h2, h3⟩ := fits_cons h
      have h4 : ∀ y ∈ a ++ b, bH c t y := fun y hy => h2 y (by
        rcases List.mem_append.1 hy with g | g
        · exact List.mem_append.2 (Or.inl g)
        · exact List.mem_append.2 (Or.inr (List.mem_cons_of_mem _ g)))
      simp only [lFits, Bool.and_eq_true, decide_eq_true_eq]
      refine ⟨h1, by rw [lTake_snd, holds_all]; exact h4, ?_⟩
      rw [lTake_fst h2, List.map_append, List.map_cons] at h3
      rw [lTake_fst h4, List.map_append]
      exact ih cs t _ _ _ h3
/-- Two costs at once: at that tick they fit one after the other. -/
theorem fits_two {c d t now : Int} {l : List S63} (hv : ∀ x ∈ l, bV x) (ht : U64 t) (c0 : 0 ≤ c) (d0 : 0 ≤ d) (h : now ≤ t) (hh : ∀ x ∈ l, bH (c + d) t x) : lFits [t, t] [c, d] now l = true := by
  have h1 : ∀ x ∈ l, bH c t x := fun x hx => by have := hh x hx; unfold bH at this ⊢; omega
  have h2 : ∀ y ∈ (lTake l t c).1, bH d t y := by
    rw [lTake_fst h1]
    intro y hy
    obtain ⟨x, hx, rfl⟩ := List.mem_map.1 hy
    have := hh x hx
    unfold bH at this ⊢
    have h3 : t ≤ (bsub c (bfill t x)).f3 := by show t ≤ fT x.f3 t; unfold fT; split <;> omega
    have e : (bfill t (bsub c (bfill t x))).f1 = (bfill t x).f1 - c := by
      show fL _ _ _ ((bfill t x).f1 - c) _ (bsub c (bfill t x)).f3 t = _
      unfold fL
      rw [if_pos h3]
    rw [e]
    omega
  simp only [lFits, Bool.and_eq_true, decide_eq_true_eq]
  exact ⟨h, by rw [lTake_snd, holds_all]; exact h1, Int.le_refl _, by rw [lTake_snd, holds_all]; exact h2, trivial⟩
def cV (cs : List Int) : Prop := cs.length ≤ 60 ∧ ∀ c ∈ cs, 0 ≤ c ∧ c ≤ 1000000000
theorem cost_bad (c : Int) : ∃ b, wait_Costs_1.f c = some b ∧ (b = true ↔ ¬ (0 ≤ c ∧ c ≤ 1000000000)) := by
  unfold wait_Costs_1.f
  by_cases h : c < 0
  · rw [if_pos h]
    exact ⟨true, rfl, fun _ => by omega, fun _ => rfl⟩
  · rw [if_neg h]
    exact ⟨_, rfl, by rw [decide_eq_true_iff]; omega⟩
theorem bad_idx (cs : List Int) (hn : cs.length ≤ 1000000) : ∀ (d j k : Nat), j + d = cs.length → d + 2 ≤ k → ∃ i : Int, slices_IndexFunc_int64_c41.l0 k cs (cs.length : Int) (j : Int) = some i ∧ (0 ≤ i ↔ ∃ c ∈ cs.drop j, ¬ (0 ≤ c ∧ c ≤ 1000000000)) := by
  intro d
  induction d with
  | zero =>
    intro j k hj hk
    obtain ⟨k, rfl⟩ : ∃ m, k = m + 1 := ⟨k - 1, by omega⟩
    simp only [slices_IndexFunc_int64_c41.l0]
    rw [if_neg (by omega), List.drop_eq_nil_of_le (by omega)]
    exact ⟨-1, rfl, fun h => absurd h (by decide), fun ⟨_, h, _⟩ => by cases h⟩
  | succ d ih =>
    intro j k hj hk
    obtain ⟨k, rfl⟩ : ∃ m, k = m + 1 := ⟨k - 1, by omega⟩
    have hjl : j < cs.length := by omega
    simp only [slices_IndexFunc_int64_c41.l0]
    rw [if_pos (by omega), if_pos (by omega), if_pos (by omega), rd_at hjl, drop_cons hjl]
    obtain ⟨b, eb, hb⟩ := cost_bad cs[j]
    rw [eb]
    simp only [Option.bind_some]
    by_cases c : b = true
    · rw [if_pos c]
      exact ⟨j, rfl, fun _ => ⟨_, List.mem_cons_self, hb.1 c⟩, fun _ => by omega⟩
    · rw [if_neg c, wj (by omega)]
      obtain ⟨i, e, h⟩ := ih (j + 1) k (by omega) (by omega)
      refine ⟨i, e, h.trans ⟨fun ⟨x, hx, h0⟩ => ⟨x, List.mem_cons_of_mem _ hx, h0⟩, fun ⟨x, hx, h0⟩ => ?_⟩⟩
      rcases List.mem_cons.1 hx with g | g
      · rw [g] at h0
        exact absurd (hb.2 h0) c
      · exact ⟨x, g, h0⟩
theorem rcosts_loop (cs : List Int) (hn : cs.length ≤ 1000000) : ∀ (d j k : Nat), j + d = cs.length → d + 2 ≤ k → ((∀ c ∈ cs.drop j, 0 ≤ c ∧ c ≤ 1000000000) → spigotref39_Costs.l0 k cs (j : Int) = some 0) ∧ (¬ (∀ c ∈ cs.drop j, 0 ≤ c ∧ c ≤ 1000000000) → spigotref39_Costs.l0 k cs (j : Int) = some 8) := by
  intro d
  induction d with
  | zero =>
    intro j k hj hk
    obtain ⟨k, rfl⟩ : ∃ m, k = m + 1 := ⟨k - 1, by omega⟩
    simp only [spigotref39_Costs.l0]
    rw [if_neg (by omega), List.drop_eq_nil_of_le (by omega)]
    exact ⟨fun _ => rfl, fun h => absurd (fun c hc => by cases hc) h⟩
  | succ d ih =>
    intro j k hj hk
    obtain ⟨k, rfl⟩ : ∃ m, k = m + 1 := ⟨k - 1, by omega⟩
    have hjl : j < cs.length := by omega
    obtain ⟨i1, i2⟩ := ih (j + 1) k (by omega) (by omega)
    simp only [spigotref39_Costs.l0]
    rw [if_pos (by omega), if_pos (by omega), rd_at hjl, drop_cons hjl, wj (by omega), List.forall_mem_cons]
    by_cases c1 : cs[j] < 0
    · rw [if_pos c1]
      exact ⟨fun h => by omega, fun _ => rfl⟩
    · rw [if_neg c1]
      by_cases c2 : cs[j] > 1000000000
      · rw [if_pos c2]
        exact ⟨fun h => by omega, fun _ => rfl⟩
      · rw [if_neg c2]
        exact ⟨fun h => i1 h.2, fun h => i2 fun g => h ⟨by omega, g⟩⟩
/-- The error of costs: both say the same. -/
theorem costs_cases (cs : List Int) (hn : cs.length ≤ 1000) : ∃ e : Int, (e = 0 ↔ cV cs) ∧ ∀ k, 1100 ≤ k → wait_Costs.f k cs = some e ∧ spigotref39_Costs.f k cs = some e := by
  by_cases h60 : (cs.length : Int) > 60
  · refine ⟨4, ⟨fun h => (by cases h), fun h => by have := h.1; omega⟩, fun k hk => ⟨?_, ?_⟩⟩
    · unfold wait_Costs.f
      rw [if_pos h60]
    · unfold spigotref39_Costs.f
      rw [if_pos h60]
  · have key : ∀ k, 1100 ≤ k → ∃ b, slices_ContainsFunc_int64_c41.f k cs 0 = some b ∧ (b = true ↔ ∃ c ∈ cs, ¬ (0 ≤ c ∧ c ≤ 1000000000)) := by
      intro k hk
      obtain ⟨i, e, h⟩ := bad_idx cs (by omega) cs.length 0 k (by omega) (by omega)
      unfold slices_ContainsFunc_int64_c41.f slices_IndexFunc_int64_c41.f
      rw [show (0 : Int) = ((0 : Nat) : Int) from rfl, e]
      rw [List.drop_zero] at h
      exact ⟨_, rfl, by rw [decide_eq_true_iff]; exact h⟩
    have rl := fun k (hk : 1100 ≤ k) => rcosts_loop cs (by omega) cs.length 0 k (by omega) (by omega)
    simp only [List.drop_zero] at rl
    by_cases g : ∀ c ∈ cs, 0 ≤ c ∧ c ≤ 1000000000
    · refine ⟨0, ⟨fun _ => ⟨by omega, g⟩, fun _ => rfl⟩, fun k hk => ⟨?_, ?_⟩⟩
      · obtain ⟨b, e, h⟩ := key k hk
        unfold wait_Costs.f
        rw [if_neg h60, e]
        simp only [Option.bind_some]
        rw [if_neg fun hb => by obtain ⟨c, hc, hn⟩ := h.1 hb; exact hn (g c hc)]
      · unfold spigotref39_Costs.f
        rw [if_neg h60]
        exact (rl k hk).1 g
    · refine ⟨8, ⟨fun h => (by cases h), fun h => absurd h.2 g⟩, fun k hk => ⟨?_, ?_⟩⟩
      · obtain ⟨b, e, h⟩ := key k hk
        unfold wait_Costs.f
        rw [if_neg h60, e]
        simp only [Option.bind_some]
        rw [if_pos (h.2 (Classical.byContradiction fun q => g fun c hc => Classical.byContradiction fun q' => q ⟨c, hc, q'⟩))]
      · unfold spigotref39_Costs.f
        rw [if_neg h60]
        exact (rl k hk).2 g
/-- The error of a row and costs: both say the same. -/
theorem both_cases (l : List S63) (cs : List Int) (hr : ∀ x ∈ l, bR x) (hn : cs.length ≤ 1000) : ∃ e : Int, (e = 0 ↔ lV l ∧ cV cs) ∧ ∀ k, 1200 ≤ k → wait_both.f k l cs = some e ∧ spigotref39_Both.f k l cs = some e := by
  rcases check_cases l hr with hv | ⟨e, e0, he⟩
  · obtain ⟨e, h0, he⟩ := costs_cases cs hn
    refine ⟨e, h0.trans ⟨fun h => ⟨hv, h⟩, fun h => h.2⟩, fun k hk => ⟨?_, ?_⟩⟩
    · unfold wait_both.f levels_Check.f
      rw [check_ok hv [] (by simp) k (by simp; omega) (by simp)]
      simp only [Option.bind_some, ↓reduceIte]
      rw [(he k (by omega)).1]
      rfl
    · unfold spigotref39_Both.f
      rw [rcheck_ok hv k (by omega)]
      simp only [Option.bind_some, ↓reduceIte]
      rw [(he k (by omega)).2]
      rfl
  · refine ⟨e, ⟨fun h => absurd h e0, fun h => ?_⟩, fun k hk => ⟨?_, ?_⟩⟩
    · have h1 := (he 100 [] (by simp) (by simp)).1
      rw [check_ok h.1 [] (by simp) 100 (by simp) (by simp)] at h1
      injection h1 with h1
      exact h1.symm
    · unfold wait_both.f levels_Check.f
      rw [(he k [] (by simp) (by simp; omega)).1]
      simp only [Option.bind_some]
      rw [if_neg e0]
    · unfold spigotref39_Both.f
      rw [(he k [] (by simp) (by simp; omega)).2]
      simp only [Option.bind_some]
      rw [if_neg e0]
/-! #### first ticks -/
theorem first_loop (l : List S63) (now c : Int) (hn : U64 now) (h0 : 0 ≤ c) (h1 : I64 c) (hl : l.length ≤ 1000000) (hv : ∀ x ∈ l, bV x) : ∀ (d j k : Nat) (tick : Int), j + d = l.length → d + 60 ≤ k →
    wait_First.l0 k now c tick l (l.length : Int) (j : Int) = some (match lFirst c now (l.drop j) tick with | none => (0, 6) | some T => (T, 0)) := by
  intro d
  induction d with
  | zero =>
    intro j k tick hj hk
    obtain ⟨k, rfl⟩ : ∃ m, k = m + 1 := ⟨k - 1, by omega⟩
    simp only [wait_First.l0]
    rw [if_neg (by omega), List.drop_eq_nil_of_le (by omega)]
    rfl
  | succ d ih =>
    intro j k tick hj hk
    obtain ⟨k, rfl⟩ : ∃ m, k = m + 1 := ⟨k - 1, by omega⟩
    have hjl : j < l.length := by omega
    have hvj := hv _ (List.getElem_mem hjl)
    have hw : VB l[j].f0.f0 l[j].f0.f1 l[j].f0.f2 (bfill now l[j]).f1 (bfill now l[j]).f2 (bfill now l[j]).f3 := bfill_valid hvj hn
    obtain ⟨b0, b1, b2, b3⟩ := bfirst (c := c) hvj hn h0
    simp only [wait_First.l0]
    rw [if_pos (by omega), if_pos (by omega), if_pos (by omega), rdB_at hjl, drop_cons hjl, Refill_ok k (by omega) hvj hn]
    simp only [Option.bind_some, ↓reduceIte]
    have ew := Wait_ok k (by omega) hw h0 h1
    have e2 : waitOf l[j].f0.f0 l[j].f0.f1 l[j].f0.f2 (bfill now l[j]).f1 (bfill now l[j]).f2 (bfill now l[j]).f3 c = bwait c (bfill now l[j]) := rfl
    rw [e2] at ew
    have e3 : (bfill now l[j]).f3 = fT l[j].f3 now := rfl
    have e4 : bucket_Wait.f k l[j].f0.f0 l[j].f0.f1 l[j].f0.f2 (fL l[j].f0.f0 l[j].f0.f1 l[j].f0.f2 l[j].f1 l[j].f2 l[j].f3 now) (fP l[j].f0.f0 l[j].f0.f1 l[j].f0.f2 l[j].f1 l[j].f2 l[j].f3 now) (fT l[j].f3 now) c = some (bwait c (bfill now l[j]), 0) := ew
    rw [e4]
    simp only [Option.bind_some, ↓reduceIte]
    unfold lFirst
    rw [wj (by omega)]
    by_cases z : bwait c (bfill now l[j]) = 0
    · rw [if_pos z, if_pos z]
      exact ih (j + 1) k tick (by omega) (by omega)
    · rw [if_neg z, if_neg z]
      by_cases m : bwait c (bfill now l[j]) = 18446744073709551615
      · rw [if_pos m, if_pos m]
      · rw [if_neg m, if_neg m, ← e3, wrap_id (b3 z m).1]
        exact ih (j + 1) k _ (by omega) (by omega)
theorem cost_I64 {c : Int} (h : 0 ≤ c ∧ c ≤ 1000000000) : I64 c := ⟨by omega, by omega⟩
theorem First_row {l : List S63} {now c : Int} (hv : lV l) (hn : U64 now) (hc : 0 ≤ c ∧ c ≤ 1000000000) (k : Nat) (hk : 1200 ≤ k) :
    wait_First.f k l now c = some (match lFirst c now l now with | none => (0, 6) | some T => (T, 0)) := by
  obtain ⟨e, h0, he⟩ := both_cases l [c] (fun x hx => bV_R (hv.2 x hx)) (by simp)
  have z : e = 0 := h0.2 ⟨hv, by simp, by simpa using hc⟩
  unfold wait_First.f
  rw [(he k hk).1, z]
  simp only [Option.bind_some, ↓reduceIte]
  have e := first_loop l now c hn hc.1 (cost_I64 hc) (by have := hv.1; omega) hv.2 l.length 0 k now (by omega) (by have := hv.1; omega)
  rw [List.drop_zero] at e
  exact e
theorem plan_loop (cs : List Int) (hc : cV cs) : ∀ (d j k : Nat) (now : Int) (row : List S63) (out : List Int), j + d = cs.length → d + 1210 ≤ k → lV row → U64 now → out.length + d ≤ 100 →
    wait_planned.l0 k now row out cs (cs.length : Int) (j : Int) = some (out ++ (lPlan (cs.drop j) now row).1, (lPlan (cs.drop j) now row).2, 0) := by
  intro d
  induction d with
  | zero =>
    intro j k now row out hj hk hv hn ho
    obtain ⟨k, rfl⟩ : ∃ m, k = m + 1 := ⟨k - 1, by omega⟩
    simp only [wait_planned.l0]
    rw [if_neg (by omega), List.drop_eq_nil_of_le (by omega)]
    simp [lPlan]
  | succ d ih =>
    intro j k now row out hj hk hv hn ho
    obtain ⟨k, rfl⟩ : ∃ m, k = m + 1 := ⟨k - 1, by omega⟩
    have hjl : j < cs.length := by omega
    have c1 := hc.2 _ (List.getElem_mem hjl)
    have h60 := hc.1
    simp only [wait_planned.l0]
    rw [if_pos (by omega), if_pos (by omega), if_pos (by omega), rd_at hjl, drop_cons hjl, First_row hv hn c1 k (by omega)]
    unfold lPlan
    cases e : lFirst cs[j] now row now with
    | none => simp
    | some T =>
      obtain ⟨hT, _⟩ := first_some hv.2 hn c1.1 e
      obtain ⟨v1, v2⟩ := lTake_valid hv hT c1.1
      simp only [Option.bind_some]
      rw [if_neg (by decide), if_pos trivial, Take_row hv hT c1.1 k (by omega)]
      simp only [Option.bind_some, ↓reduceIte]
      rw [if_pos (by omega), wj (by omega), ih (j + 1) k T _ _ (by omega) (by omega) v1 hT (by simp; omega)]
      simp
theorem planned_row {l : List S63} {now : Int} {cs : List Int} (hv : lV l) (hc : cV cs) (hn : U64 now) (k : Nat) (hk : 1300 ≤ k) : wait_planned.f k l now cs = some ((lPlan cs now l).1, (lPlan cs now l).2, 0) := by
  obtain ⟨e, h0, he⟩ := both_cases l cs (fun x hx => bV_R (hv.2 x hx)) (by have := hc.1; omega)
  unfold wait_planned.f
  rw [(he k (by omega)).1, h0.2 ⟨hv, hc⟩]
  simp only [Option.bind_some, ↓reduceIte]
  rw [clone_ok (by have := hv.1; omega)]
  simp only [Option.bind_some]
  have h60 := hc.1
  have e := plan_loop cs hc cs.length 0 k now l [] (by omega) (by omega) hv hn (by simp; omega)
  rw [List.drop_zero, List.nil_append] at e
  exact e
/-- A plan as it is told. -/
def tPlan (cs : List Int) (now : Int) (l : List S63) : List Int × List S63 × Int := if (lPlan cs now l).1.length < cs.length then ([], [], 6) else ((lPlan cs now l).1, (lPlan cs now l).2, 0)
theorem Plan_row {l : List S63} {now : Int} {cs : List Int} (hv : lV l) (hc : cV cs) (hn : U64 now) (k : Nat) (hk : 1300 ≤ k) : wait_Plan.f k l now cs = some (tPlan cs now l) := by
  obtain ⟨m, rfl⟩ : ∃ m, k = m + 1 := ⟨k - 1, by omega⟩
  unfold wait_Plan.f tPlan
  rw [planned_row hv hc hn (m + 1) hk]
  simp only [Option.bind_some, ↓reduceIte, wait_Plan.j0]
  by_cases h : (lPlan cs now l).1.length < cs.length
  · rw [if_pos h, if_pos (decide_eq_true (by omega))]
  · rw [if_neg h, if_neg (by rw [decide_eq_true_iff]; omega)]
theorem great_ok {l : List S63} {cs : List Int} : ∃ b, spigotref39_Great.f l cs = some b ∧ (b = false → l.length ≤ 20 ∧ cs.length ≤ 100 ∧ (cs.length ≤ 60 → cs.length ≤ 20)) := by
  unfold spigotref39_Great.f spigotref04_Great.f
  simp only [Option.bind_some]
  by_cases g1 : (l.length : Int) > 20
  · rw [if_pos (decide_eq_true g1)]
    exact ⟨true, rfl, fun h => by cases h⟩
  · rw [if_neg (by simpa using g1)]
    by_cases g2 : (cs.length : Int) > 20
    · rw [if_pos g2]
      by_cases g3 : (cs.length : Int) ≤ 60
      · rw [if_pos g3]
        exact ⟨true, rfl, fun h => by cases h⟩
      · rw [if_neg g3]
        exact ⟨_, rfl, fun h => by have := of_decide_eq_false h; omega⟩
    · rw [if_neg g2]
      exact ⟨_, rfl, fun h => by have := of_decide_eq_false h; omega⟩
set_option maxRecDepth 100000 in
theorem alive39_ : spigotlaw39_alive.f 200 = some true := by kernel_rfl
theorem alive39 (k : Nat) (hk : 200 ≤ k) : spigotlaw39_alive.f k = some true := up_ (fun k => spigotlaw39_alive.mono k) alive39_ k hk
theorem fit39 {l : List S63} {cs : List Int} (hr : ∀ x ∈ l, bR x) (k : Nat) (hk : 1200 ≤ k) : ∃ b, spigotlaw39_fit.f k l cs = some b ∧ (b = true → lV l ∧ cV cs ∧ cs.length ≤ 20) := by
  unfold spigotlaw39_fit.f
  obtain ⟨g, eg, hg⟩ := great_ok (l := l) (cs := cs)
  rw [eg]
  simp only [Option.bind_some]
  cases g with
  | true => exact ⟨false, rfl, fun h => by cases h⟩
  | false =>
    obtain ⟨g1, g2, g3⟩ := hg rfl
    obtain ⟨e, h0, he⟩ := both_cases l cs hr (by omega)
    rw [if_neg (by decide), (he k hk).2]
    refine ⟨_, rfl, fun h => ?_⟩
    obtain ⟨a, b⟩ := h0.1 (beq_iff_eq.1 h)
    exact ⟨a, b, g3 b.1⟩
theorem cV_two {cs : List Int} (h : cV cs) : cV (cs.take 2) := ⟨by rw [List.length_take]; have := h.1; omega, fun c hc => h.2 c (List.mem_of_mem_take hc)⟩
theorem later_j8 (l : List S63) (now : Int) (cs : List Int) (hv : lV l) (hn : U64 now) (hc : cV cs) (k : Nat) (hk : 1302 ≤ k) : spigotlaw39_WaitLater.j8 k l now cs true = some true := by
  obtain ⟨k, rfl⟩ : ∃ m, k = m + 2 := ⟨k - 2, by omega⟩
  have h60 := hc.1
  have fin : spigotlaw39_WaitLater.j9 (k + 1) l now cs true true = some true := by simp only [spigotlaw39_WaitLater.j9, ↓reduceIte]
  simp only [spigotlaw39_WaitLater.j8]
  by_cases c2 : (cs.length : Int) < 2
  · rw [if_pos c2]
    exact fin
  · rw [if_neg c2, if_pos (by omega), if_pos (by omega)]
    have b0 := hc.2 _ (List.getElem_mem (show 0 < cs.length by omega))
    have b1 := hc.2 _ (List.getElem_mem (show 1 < cs.length by omega))
    have r0 : rd cs 0 = cs[0] := rd_at (j := 0) (by omega)
    have r1 : rd cs 1 = cs[1] := rd_at (j := 1) (by omega)
    rw [r0, r1, wrap64_id (by omega) (by omega)]
    by_cases g : cs[0] + cs[1] > 1000000000
    · rw [decide_eq_true g]
      exact fin
    · rw [decide_eq_false g]
      have ct := cV_two hc
      have t2 : cs.take 2 = [cs[0], cs[1]] := by
        apply List.ext_getElem
        · simp only [List.length_take, List.length_cons, List.length_nil]
          omega
        · intro i h1 h2
          simp only [List.length_cons, List.length_nil] at h2
          rw [List.getElem_take]
          match i, h2 with
          | 0, _ => rfl
          | 1, _ => rfl
      simp only [spigotlaw39_WaitLater.j9]
      rw [if_neg (by decide), if_pos (by omega), if_pos (by omega), r0, r1, wrap64_id (by omega) (by omega), First_row hv hn (by omega) k (by omega)]
      simp only [Option.bind_some]
      rw [if_pos (by omega), Plan_row hv ct hn k (by omega)]
      simp only [Option.bind_some, ↓reduceIte]
      cases e : lFirst (cs[0] + cs[1]) now l now with
      | none =>
        simp only
        rw [if_neg (by decide)]
      | some T =>
        obtain ⟨hT, h1, h2, h3⟩ := first_some hv.2 hn (by omega) e
        have ff := fits_two hv.2 hT b0.1 b1.1 h1 h2
        have ct0 : ∀ c ∈ cs.take 2, 0 ≤ c := fun c h => (ct.2 c h).1
        have er := earliest (cs.take 2) [T, T] now now l l hv hv hn hn ct0 (by intro t ht; simp at ht; rw [ht]; exact hT) (by rw [t2]; rfl) (Int.le_refl _) (geL_refl hv.2) (by rw [t2]; exact ff)
        obtain ⟨e1, e2⟩ := er
        have el : (cs.take 2).length = 2 := by rw [List.length_take]; omega
        unfold tPlan
        rw [if_neg (show ¬ (lPlan (cs.take 2) now l).1.length < (cs.take 2).length by omega)]
        simp only [↓reduceIte]
        have l1 : 1 < (lPlan (cs.take 2) now l).1.length := by omega
        rw [if_pos (by omega), if_pos (by omega), show (1 : Int) = ((1 : Nat) : Int) from rfl, rd_at l1]
        have := e2 1 l1 (by simp)
        rw [decide_eq_true (by simpa using this)]
theorem later_l1 (l : List S63) (now : Int) (cs p : List Int) (e : Int) (r : List Int) (hv : lV l) (hn : U64 now) (hc : cV cs) (hp : p.length ≤ 60) (h : e = 0 → r.length = p.length ∧ ∀ (i : Nat) (h : i < r.length) (h' : i < p.length), r[i] ≤ p[i]) :
    ∀ (d j k : Nat), j + d = p.length → 2 * d + 1310 ≤ k → spigotlaw39_WaitLater.l1 k l now cs true p e r (j : Int) = some true := by
  intro d
  induction d with
  | zero =>
    intro j k hj hk
    obtain ⟨k, rfl⟩ : ∃ m, k = m + 2 := ⟨k - 2, by omega⟩
    simp only [spigotlaw39_WaitLater.l1]
    rw [if_neg (by omega)]
    simp only [spigotlaw39_WaitLater.j7]
    rw [if_neg (by decide)]
    exact later_j8 l now cs hv hn hc k (by omega)
  | succ d ih =>
    intro j k hj hk
    obtain ⟨k, rfl⟩ : ∃ m, k = m + 2 := ⟨k - 2, by omega⟩
    have hjl : j < p.length := by omega
    simp only [spigotlaw39_WaitLater.l1]
    rw [if_pos (by omega)]
    simp only [spigotlaw39_WaitLater.j7]
    by_cases e0 : e = 0
    · obtain ⟨h1, h2⟩ := h e0
      have := h2 j (by omega) hjl
      rw [if_pos (beq_iff_eq.2 e0), if_pos (by omega), if_pos (by omega), if_pos (by omega), rd_at hjl, rd_at (show j < r.length by omega), if_neg (by omega), wj (by omega)]
      exact ih (j + 1) k (by omega) (by omega)
    · rw [if_neg (by rw [beq_iff_eq]; exact e0)]
      exact later_j8 l now cs hv hn hc k (by omega)
/-- What the plan of fewer buckets is. -/
theorem later_more (l m : List S63) (now : Int) (cs : List Int) (hv : lV l) (hless : lV m) (hn : U64 now) (hc : cV cs) (hf : ∀ ts, lFits ts cs now l = true → lFits ts cs now m = true) : (tPlan cs now l).2.2 = 0 → (tPlan cs now m).2.2 = 0 ∧ (tPlan cs now m).1.length = (tPlan cs now l).1.length ∧
        ∀ (i : Nat) (h : i < (tPlan cs now m).1.length) (h' : i < (tPlan cs now l).1.length), (tPlan cs now m).1[i] ≤ (tPlan cs now l).1[i] := by
  intro e0
  have h60 := hc.1
  have c0 : ∀ c ∈ cs, 0 ≤ c := fun c h => (hc.2 c h).1
  obtain ⟨p1, p2, p3, p4⟩ := plan_valid cs now l hv hn c0
  have g : ¬ (lPlan cs now l).1.length < cs.length := fun g => by
    have e : (tPlan cs now l).2.2 = 6 := by unfold tPlan; rw [if_pos g]
    rw [e] at e0
    exact absurd e0 (by decide)
  have t1 : tPlan cs now l = ((lPlan cs now l).1, (lPlan cs now l).2, 0) := by unfold tPlan; rw [if_neg g]
  obtain ⟨f1, _, _⟩ := plan_fits cs now l hv hn c0 (by omega)
  obtain ⟨r1, r2⟩ := earliest cs (lPlan cs now l).1 now now _ _ hless hless hn hn c0 p3 (by omega) (Int.le_refl _) (geL_refl hless.2) (hf _ f1)
  have t2 : tPlan cs now m = ((lPlan cs now m).1, (lPlan cs now m).2, 0) := by unfold tPlan; rw [if_neg (by omega)]
  rw [t1, t2]
  exact ⟨rfl, by simp only; omega, r2⟩
theorem later_fin (l m : List S63) (now : Int) (cs : List Int) (hv : lV l) (hn : U64 now) (hc : cV cs) (k : Nat) (hk : 1498 ≤ k)
    (more : (tPlan cs now l).2.2 = 0 → (tPlan cs now m).2.2 = 0 ∧ (tPlan cs now m).1.length = (tPlan cs now l).1.length ∧
        ∀ (i : Nat) (h : i < (tPlan cs now m).1.length) (h' : i < (tPlan cs now l).1.length), (tPlan cs now m).1[i] ≤ (tPlan cs now l).1[i]) :
    spigotlaw39_WaitLater.j5 (k + 1) l now cs true (tPlan cs now l).1 (tPlan cs now l).2.2 (tPlan cs now m).1 false = some true := by
  have h60 := hc.1
  have c0 : ∀ c ∈ cs, 0 ≤ c := fun c h => (hc.2 c h).1
  obtain ⟨p1, p2, p3, p4⟩ := plan_valid cs now l hv hn c0
  have hp : (tPlan cs now l).1.length ≤ 60 := by
    unfold tPlan
    split
    · simp
    · simp only
      omega
  simp only [spigotlaw39_WaitLater.j5]
  rw [if_neg (by decide)]
  exact later_l1 l now cs _ _ _ hv hn hc hp (fun e0 => (more e0).2) (tPlan cs now l).1.length 0 k (by omega) (by omega)
/-- Without one of its buckets. -/
theorem later_j4 (l : List S63) (now : Int) (cs : List Int) (a : Int) (hv : lV l) (hn : U64 now) (hc : cV cs) (k : Nat) (hk : 1500 ≤ k) (b : Bool) (hb : b = true → 0 ≤ a ∧ a < (l.length : Int)) (hl : l.length ≤ maxLen) :
    spigotlaw39_WaitLater.j4 k l now cs a true (tPlan cs now l).1 (tPlan cs now l).2.2 b = some true := by
  obtain ⟨k, rfl⟩ : ∃ m, k = m + 2 := ⟨k - 2, by omega⟩
  have h8 := hv.1
  clear hl
  simp only [spigotlaw39_WaitLater.j4]
  cases b with
  | false =>
    rw [if_neg (by decide)]
    exact later_j8 l now cs hv hn hc (k + 1) (by omega)
  | true =>
    obtain ⟨a0, a1⟩ := hb rfl
    obtain ⟨n, rfl⟩ : ∃ n : Nat, a = (n : Int) := ⟨a.toNat, by omega⟩
    have hnl : n < l.length := by omega
    have hs : l = l.take n ++ l[n] :: l.drop (n + 1) := by rw [← List.drop_eq_getElem_cons hnl, List.take_append_drop]
    have hless : lV (l.take n ++ l.drop (n + 1)) := by
      refine ⟨by rw [List.length_append, List.length_take, List.length_drop]; omega, fun x hx => ?_⟩
      rcases List.mem_append.1 hx with h | h
      · exact hv.2 x (List.mem_of_mem_take h)
      · exact hv.2 x (List.mem_of_mem_drop h)
    have more := later_more l _ now cs hv hless hn hc (fun ts f => fits_less ts cs now (l.take n) l[n] (l.drop (n + 1)) (by rw [← hs]; exact f))
    have fin := later_fin l _ now cs hv hn hc k (by omega) more
    have b0 : (l.take n).length ≤ 8 := by rw [List.length_take]; omega
    have b0' : (l.drop (n + 1)).length ≤ 8 := by rw [List.length_drop]; omega
    have b1 : ([] : List S63).length + (l.take n).length < 2932031007402 := by rw [List.length_nil]; omega
    have b2 : (([] : List S63) ++ l.take n).length + (l.drop (n + 1)).length < 2932031007402 := by rw [List.nil_append]; omega
    have z1 : ((n : Int)).toNat = n := Int.toNat_natCast n
    have z2 : ((n + 1 : Nat) : Int).toNat = n + 1 := Int.toNat_natCast (n + 1)
    have plan := Plan_row hless hc hn (k + 1) (by omega)
    rw [if_pos rfl, Option.bind_some, if_pos a0, if_pos (Int.le_of_lt a1), Option.bind_some, z1, if_pos b1, Option.bind_some, wj (by omega), if_pos (Int.natCast_nonneg _), if_pos (Int.ofNat_le.2 hnl), Option.bind_some, z2, if_pos b2, List.nil_append]
    generalize l.take n ++ l.drop (n + 1) = m at plan more fin ⊢
    rw [plan]
    simp only [Option.bind_some]
    by_cases e0 : (tPlan cs now l).2.2 = 0
    · obtain ⟨m1, m2, _⟩ := more e0
      rw [if_pos e0, if_pos m1, bne_eq_false_iff_eq.2 (by omega)]
      exact fin
    · rw [if_neg e0]
      exact fin
theorem later_l0 (l : List S63) (now : Int) (cs : List Int) (a : Int) (q : List Int) (f : Int) (hv : lV l) (hn : U64 now) (hc : cV cs) (hl : l.length ≤ maxLen) (hq : q.length ≤ 60)
    (h : f = 0 → q.length = (tPlan cs now l).1.length ∧ ∀ (i : Nat) (h : i < (tPlan cs now l).1.length) (h' : i < q.length), (tPlan cs now l).1[i] ≤ q[i]) :
    ∀ (d j k : Nat), j + d = q.length → 2 * d + 1510 ≤ k → spigotlaw39_WaitLater.l0 k l now cs a true (tPlan cs now l).1 (tPlan cs now l).2.2 q f (j : Int) = some true := by
  have out : ∀ k, 1500 ≤ k → (if a ≥ 0 then spigotlaw39_WaitLater.j4 k l now cs a true (tPlan cs now l).1 (tPlan cs now l).2.2 (decide (a < (l.length : Int))) else spigotlaw39_WaitLater.j4 k l now cs a true (tPlan cs now l).1 (tPlan cs now l).2.2 false) = some true := by
    intro k hk
    by_cases g : a ≥ 0
    · rw [if_pos g]
      exact later_j4 l now cs a hv hn hc k hk _ (fun h => ⟨g, of_decide_eq_true h⟩) hl
    · rw [if_neg g]
      exact later_j4 l now cs a hv hn hc k hk _ (fun h => by cases h) hl
  intro d
  induction d with
  | zero =>
    intro j k hj hk
    obtain ⟨k, rfl⟩ : ∃ m, k = m + 2 := ⟨k - 2, by omega⟩
    simp only [spigotlaw39_WaitLater.l0]
    rw [if_neg (by omega)]
    simp only [spigotlaw39_WaitLater.j3]
    rw [if_neg (by decide)]
    exact out k (by omega)
  | succ d ih =>
    intro j k hj hk
    obtain ⟨k, rfl⟩ : ∃ m, k = m + 2 := ⟨k - 2, by omega⟩
    have hjl : j < q.length := by omega
    simp only [spigotlaw39_WaitLater.l0]
    rw [if_pos (by omega)]
    simp only [spigotlaw39_WaitLater.j3]
    by_cases e0 : f = 0
    · obtain ⟨h1, h2⟩ := h e0
      have := h2 j (by omega) hjl
      rw [if_pos (beq_iff_eq.2 e0), if_pos (by omega), if_pos (by omega), if_pos (by omega), rd_at hjl, rd_at (show j < (tPlan cs now l).1.length by omega), if_neg (by omega), wj (by omega)]
      exact ih (j + 1) k (by omega) (by omega)
    · rw [if_neg (by rw [beq_iff_eq]; exact e0)]
      exact out k (by omega)
theorem WaitLater_pure (l : List S63) (now later : Int) (cs : List Int) (a : Int) (hm : l.length ≤ maxLen) (hr : ∀ x ∈ l, bR x) (hn : U64 now) (hu : U64 later) (_ : cs.length ≤ maxLen) (_ : ∀ y ∈ cs, I64 y) (_ : I64 a) : ∃ k, spigotlaw39_WaitLater.f k l now later cs a = some true := by
  refine ⟨1703, ?_⟩
  have fin : spigotlaw39_WaitLater.j0 1703 l now later cs a true true = some true := by simp only [spigotlaw39_WaitLater.j0, ↓reduceIte]
  unfold spigotlaw39_WaitLater.f
  rw [alive39 1703 (by omega)]
  simp only [Option.bind_some]
  obtain ⟨b, eb, hb⟩ := fit39 (l := l) (cs := cs) hr 1703 (by omega)
  rw [eb]
  simp only [Option.bind_some]
  by_cases c0 : b = true
  · rw [if_pos c0]
    obtain ⟨hv, hc, h20⟩ := hb c0
    by_cases a0 : later < now
    · rw [if_pos a0]
      exact fin
    · rw [if_neg a0]
      have c0' : ∀ c ∈ cs, 0 ≤ c := fun c h => (hc.2 c h).1
      obtain ⟨p1, p2, p3, p4⟩ := plan_valid cs now l hv hn c0'
      obtain ⟨q1, q2, q3, q4⟩ := plan_valid cs later l hv hu c0'
      simp only [spigotlaw39_WaitLater.j0]
      rw [show (!true) = false from rfl, if_neg (by decide), Plan_row hv hc hn 1702 (by omega)]
      simp only [Option.bind_some]
      rw [Plan_row hv hc hu 1702 (by omega)]
      simp only [Option.bind_some]
      -- a later plan is none the better
      have key : (tPlan cs later l).2.2 = 0 → (tPlan cs now l).2.2 = 0 ∧ (tPlan cs later l).1.length = (tPlan cs now l).1.length ∧ ∀ (i : Nat) (h : i < (tPlan cs now l).1.length) (h' : i < (tPlan cs later l).1.length), (tPlan cs now l).1[i] ≤ (tPlan cs later l).1[i] := by
        intro e0
        have g : ¬ (lPlan cs later l).1.length < cs.length := fun g => by unfold tPlan at e0; rw [if_pos g] at e0; cases e0
        have t1 : tPlan cs later l = ((lPlan cs later l).1, (lPlan cs later l).2, 0) := by unfold tPlan; rw [if_neg g]
        obtain ⟨f1, _, _⟩ := plan_fits cs later l hv hu c0' (by omega)
        obtain ⟨r1, r2⟩ := earliest cs (lPlan cs later l).1 now later l l hv hv hn hu c0' q3 (by omega) (by omega) (geL_refl hv.2) f1
        have t2 : tPlan cs now l = ((lPlan cs now l).1, (lPlan cs now l).2, 0) := by unfold tPlan; rw [if_neg (by omega)]
        rw [t1, t2]
        exact ⟨rfl, by simp only; omega, r2⟩
      have six : ∀ t, (tPlan cs t l).2.2 = 0 ∨ (tPlan cs t l).2.2 = 6 := by
        intro t
        unfold tPlan
        split
        · exact Or.inr rfl
        · exact Or.inl rfl
      have hq : (tPlan cs later l).1.length ≤ 60 := by
        have := hc.1
        unfold tPlan
        split
        · simp
        · simp only
          omega
      have go : spigotlaw39_WaitLater.j1 1702 l now cs a true (tPlan cs now l).1 (tPlan cs now l).2.2 (tPlan cs later l).1 (tPlan cs later l).2.2 false = some true := by
        simp only [spigotlaw39_WaitLater.j1]
        rw [if_neg (by decide)]
        exact later_l0 l now cs a _ _ hv hn hc hm hq (fun e0 => (key e0).2) (tPlan cs later l).1.length 0 1701 (by omega) (by omega)
      rcases six later with f | f
      · obtain ⟨k1, k2, _⟩ := key f
        rw [if_pos f, if_pos k1, if_pos (by omega)]
        exact go
      · have nf : ((tPlan cs later l).2.2 != 6) = false := bne_eq_false_iff_eq.2 f
        rw [if_neg (by omega), nf]
        rcases six now with e | e
        · rw [if_pos e]
          exact go
        · rw [if_neg (by omega), if_pos e]
          exact go
  · rw [if_neg c0]
    exact fin
end Go.Proofs.Ytfdpcnkghmmobaa.X
