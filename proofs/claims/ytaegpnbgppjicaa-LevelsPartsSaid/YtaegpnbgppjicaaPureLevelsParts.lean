/- LevelsParts, and what it needs. -/
import Derived.Test.YtaegpnbgppjicaaX0
import Derived.Test.YtaegpnbgppjicaaX3
import Derived.Test.YtaegpnbgppjicaaX4
import Derived.Test.YtaegpnbgppjicaaX5
import Derived.Test.YtaegpnbgppjicaaX6
import Derived.Test.YtaegpnbgppjicaaX7
import Derived.Test.YtaegpnbgppjicaaX8
import Derived.Test.YtaegpnbgppjicaaX9
import Derived.Test.YtaegpnbgppjicaaX10
import Derived.Test.YtaegpnbgppjicaaX11
import Derived.Test.YtaegpnbgppjicaaX12
import Derived.Test.YtaegpnbgppjicaaX13
import Derived.Test.YtaegpnbgppjicaaX14
import Derived.Test.YtaegpnbgppjicaaX15
import Derived.Test.YtaegpnbgppjicaaX16
import Derived.Test.YtaegpnbgppjicaaX24
import Derived.Test.YtaegpnbgppjicaaX25
import Derived.Test.YtaegpnbgppjicaaX27
import Derived.Test.YtaegpnbgppjicaaX30
import Derived.Test.YtaegpnbgppjicaaX31
import Derived.Test.YtaegpnbgppjicaaX38
import Derived.Test.YtaegpnbgppjicaaMath
namespace Go.Proofs.Ytaegpnbgppjicaa.X
open Go.RowKit Go.Proofs.YtaegpnbgppjicaaW.PrintWords Go.Proofs.YtaegpnbgppjicaaW.PrintLast Go.Proofs.YtaegpnbgppjicaaW.PrintMore
set_option linter.unusedVariables false
set_option linter.unusedSimpArgs false

theorem wj {j : Nat} (h : j < 9223372036854775807) : wrap64 ((j : Int) + 1) = ((j + 1 : Nat) : Int) := by unfold wrap64; omega
theorem rd_at {l : List Int} {j : Nat} (h : j < l.length) : rd l (j : Int) = l[j] := by
  unfold rd
  rw [List.getD_eq_getElem?_getD, Int.toNat_natCast, List.getElem?_eq_getElem h]
  rfl
theorem rdOf_at {α : Type} {l : List α} {j : Nat} (d : α) (h : j < l.length) : rdOf d l (j : Int) = l[j] := by
  unfold rdOf
  rw [List.getD_eq_getElem?_getD, Int.toNat_natCast, List.getElem?_eq_getElem h]
  rfl
/-- What is written at place j, when what stands ahead of j has been written. -/
theorem set_walk {α : Type} (f : α → α) (l : List α) {j : Nat} (h : j < l.length) : ((l.map f).take j ++ l.drop j).set j (f l[j]) = (l.map f).take (j + 1) ++ l.drop (j + 1) := by
  have h1 : ((l.map f).take j).length = j := by rw [List.length_take, List.length_map]; omega
  rw [List.set_append_right _ _ (by omega), h1, Nat.sub_self, List.drop_eq_getElem_cons h, List.set_cons_zero]
  have h2 : (l.map f).take (j + 1) = (l.map f).take j ++ [f l[j]] := by
    rw [List.take_add_one, List.getElem?_eq_getElem (by rw [List.length_map]; exact h), List.getElem_map]
    rfl
  rw [h2, List.append_assoc]
  rfl
theorem walk_get {α : Type} (f : α → α) (l : List α) {j : Nat} (h : j < l.length) (h' : j < ((l.map f).take j ++ l.drop j).length) : ((l.map f).take j ++ l.drop j)[j] = l[j] := by
  have h1 : ((l.map f).take j).length = j := by rw [List.length_take, List.length_map]; omega
  rw [List.getElem_append_right (by omega)]
  simp [h1]
theorem walk_len {α : Type} (f : α → α) (l : List α) (j : Nat) (h : j ≤ l.length) : ((l.map f).take j ++ l.drop j).length = l.length := by
  rw [List.length_append, List.length_take, List.length_map, List.length_drop]
  omega
/-- From the table: how many bits a byte needs. -/
theorem tab_byte (b : Nat) (hb : b < 256) (h0 : 0 < b) : ∃ t : Nat, 1 ≤ t ∧ t ≤ 8 ∧ 2 ^ (t - 1) ≤ b ∧ b < 2 ^ t ∧ bt (⟨#[0, 1, 2, 2, 3, 3, 3, 3, 4, 4, 4, 4, 4, 4, 4, 4, 5, 5, 5, 5, 5, 5, 5, 5, 5, 5, 5, 5, 5, 5, 5, 5, 6, 6, 6, 6, 6, 6, 6, 6, 6, 6, 6, 6, 6, 6, 6, 6, 6, 6, 6, 6, 6, 6, 6, 6, 6, 6, 6, 6, 6, 6, 6, 6, 7, 7, 7, 7, 7, 7, 7, 7, 7, 7, 7, 7, 7, 7, 7, 7, 7, 7, 7, 7, 7, 7, 7, 7, 7, 7, 7, 7, 7, 7, 7, 7, 7, 7, 7, 7, 7, 7, 7, 7, 7, 7, 7, 7, 7, 7, 7, 7, 7, 7, 7, 7, 7, 7, 7, 7, 7, 7, 7, 7, 7, 7, 7, 7, 8, 8, 8, 8, 8, 8, 8, 8, 8, 8, 8, 8, 8, 8, 8, 8, 8, 8, 8, 8, 8, 8, 8, 8, 8, 8, 8, 8, 8, 8, 8, 8, 8, 8, 8, 8, 8, 8, 8, 8, 8, 8, 8, 8, 8, 8, 8, 8, 8, 8, 8, 8, 8, 8, 8, 8, 8, 8, 8, 8, 8, 8, 8, 8, 8, 8, 8, 8, 8, 8, 8, 8, 8, 8, 8, 8, 8, 8, 8, 8, 8, 8, 8, 8, 8, 8, 8, 8, 8, 8, 8, 8, 8, 8, 8, 8, 8, 8, 8, 8, 8, 8, 8, 8, 8, 8, 8, 8, 8, 8, 8, 8, 8, 8, 8, 8, 8, 8, 8, 8, 8, 8, 8, 8, 8, 8, 8, 8]⟩ : ByteArray) (b : Int) = (t : Int) := by
  have h : ∀ b : Fin 256, 0 < b.val → ∃ t : Fin 9, 1 ≤ t.val ∧ 2 ^ (t.val - 1) ≤ b.val ∧ b.val < 2 ^ t.val ∧ bt (⟨#[0, 1, 2, 2, 3, 3, 3, 3, 4, 4, 4, 4, 4, 4, 4, 4, 5, 5, 5, 5, 5, 5, 5, 5, 5, 5, 5, 5, 5, 5, 5, 5, 6, 6, 6, 6, 6, 6, 6, 6, 6, 6, 6, 6, 6, 6, 6, 6, 6, 6, 6, 6, 6, 6, 6, 6, 6, 6, 6, 6, 6, 6, 6, 6, 7, 7, 7, 7, 7, 7, 7, 7, 7, 7, 7, 7, 7, 7, 7, 7, 7, 7, 7, 7, 7, 7, 7, 7, 7, 7, 7, 7, 7, 7, 7, 7, 7, 7, 7, 7, 7, 7, 7, 7, 7, 7, 7, 7, 7, 7, 7, 7, 7, 7, 7, 7, 7, 7, 7, 7, 7, 7, 7, 7, 7, 7, 7, 7, 8, 8, 8, 8, 8, 8, 8, 8, 8, 8, 8, 8, 8, 8, 8, 8, 8, 8, 8, 8, 8, 8, 8, 8, 8, 8, 8, 8, 8, 8, 8, 8, 8, 8, 8, 8, 8, 8, 8, 8, 8, 8, 8, 8, 8, 8, 8, 8, 8, 8, 8, 8, 8, 8, 8, 8, 8, 8, 8, 8, 8, 8, 8, 8, 8, 8, 8, 8, 8, 8, 8, 8, 8, 8, 8, 8, 8, 8, 8, 8, 8, 8, 8, 8, 8, 8, 8, 8, 8, 8, 8, 8, 8, 8, 8, 8, 8, 8, 8, 8, 8, 8, 8, 8, 8, 8, 8, 8, 8, 8, 8, 8, 8, 8, 8, 8, 8, 8, 8, 8, 8, 8, 8, 8, 8, 8, 8, 8]⟩ : ByteArray) (b.val : Int) = (t.val : Int) := by decide +kernel
  obtain ⟨t, h1, h2, h3, h4⟩ := h ⟨b, hb⟩ h0
  exact ⟨t.val, h1, by omega, h2, h3, h4⟩
/-- How many bits a number needs, behind a shift by m. -/
theorem bits_shift {x b : Int} {t m : Nat} (hb : b = x / 2 ^ m) (h1 : 1 ≤ t) (h2 : (2 : Int) ^ (t - 1) ≤ b) (h3 : b < 2 ^ t) : (2 : Int) ^ (t + m - 1) ≤ x ∧ x < 2 ^ (t + m) := by
  subst hb
  obtain ⟨d1, d2⟩ := div_bd (n := x) (two_pow_pos m)
  have e1 := two_pow_split (t - 1) m (t + m - 1) (by omega)
  have e2 := two_pow_split t m (t + m) rfl
  have k1 := Int.mul_le_mul_of_nonneg_right h2 (Int.le_of_lt (two_pow_pos m))
  have k2 : x / 2 ^ m * 2 ^ m + 2 ^ m ≤ 2 ^ t * 2 ^ m := by
    have : (x / 2 ^ m + 1) * 2 ^ m ≤ 2 ^ t * 2 ^ m := Int.mul_le_mul_of_nonneg_right (by omega) (Int.le_of_lt (two_pow_pos m))
    rw [Int.add_mul, Int.one_mul] at this
    exact this
  omega
set_option maxRecDepth 100000 in
theorem Len64_j0 (k : Nat) (x o : Int) (m : Nat) (ho : o = m) (hm : m ≤ 32) (h0 : 0 < x) (h1 : x < 4294967296) :
    ∃ t : Nat, 1 ≤ t ∧ t ≤ 32 ∧ bits_Len64.j0 (k + 1) x o = some ((t + m : Nat) : Int) ∧ (2 : Int) ^ (t - 1) ≤ x ∧ x < 2 ^ t := by
  rw [bits_Len64.j0]
  have key : ∀ (b : Int) (s : Nat), b = x / 2 ^ s → 0 < b → b < 256 → s ≤ 24 → ∃ t : Nat, 1 ≤ t ∧ t ≤ 8 ∧ bt (⟨#[0, 1, 2, 2, 3, 3, 3, 3, 4, 4, 4, 4, 4, 4, 4, 4, 5, 5, 5, 5, 5, 5, 5, 5, 5, 5, 5, 5, 5, 5, 5, 5, 6, 6, 6, 6, 6, 6, 6, 6, 6, 6, 6, 6, 6, 6, 6, 6, 6, 6, 6, 6, 6, 6, 6, 6, 6, 6, 6, 6, 6, 6, 6, 6, 7, 7, 7, 7, 7, 7, 7, 7, 7, 7, 7, 7, 7, 7, 7, 7, 7, 7, 7, 7, 7, 7, 7, 7, 7, 7, 7, 7, 7, 7, 7, 7, 7, 7, 7, 7, 7, 7, 7, 7, 7, 7, 7, 7, 7, 7, 7, 7, 7, 7, 7, 7, 7, 7, 7, 7, 7, 7, 7, 7, 7, 7, 7, 7, 8, 8, 8, 8, 8, 8, 8, 8, 8, 8, 8, 8, 8, 8, 8, 8, 8, 8, 8, 8, 8, 8, 8, 8, 8, 8, 8, 8, 8, 8, 8, 8, 8, 8, 8, 8, 8, 8, 8, 8, 8, 8, 8, 8, 8, 8, 8, 8, 8, 8, 8, 8, 8, 8, 8, 8, 8, 8, 8, 8, 8, 8, 8, 8, 8, 8, 8, 8, 8, 8, 8, 8, 8, 8, 8, 8, 8, 8, 8, 8, 8, 8, 8, 8, 8, 8, 8, 8, 8, 8, 8, 8, 8, 8, 8, 8, 8, 8, 8, 8, 8, 8, 8, 8, 8, 8, 8, 8, 8, 8, 8, 8, 8, 8, 8, 8, 8, 8, 8, 8, 8, 8, 8, 8, 8, 8, 8, 8]⟩ : ByteArray) b = (t : Int) ∧ (2 : Int) ^ (t + s - 1) ≤ x ∧ x < 2 ^ (t + s) := by
    intro b s hb b0 b1 hs
    obtain ⟨c, rfl⟩ := Int.eq_ofNat_of_zero_le (Int.le_of_lt b0)
    obtain ⟨t, t1, t2, t3, t4, t5⟩ := tab_byte c (by omega) (by omega)
    obtain ⟨e1, e2⟩ := bits_shift (x := x) (b := c) (t := t) (m := s) hb t1 (by exact_mod_cast t3) (by exact_mod_cast t4)
    exact ⟨t, t1, t2, t5, e1, e2⟩
  by_cases c1 : x ≥ 65536
  · rw [if_pos c1]
    by_cases c2 : x / 65536 ≥ 256
    · rw [if_pos c2, if_pos (by omega), if_pos (by omega)]
      obtain ⟨t, t1, t2, t3, t4, t5⟩ := key (x / 65536 / 256 % 256) 24 (by rw [Int.emod_eq_of_lt (by omega) (by omega), show ((2 : Int) ^ 24) = 16777216 from rfl]; omega) (by omega) (by omega) (by omega)
      refine ⟨t + 24, by omega, by omega, ?_, t4, t5⟩
      rw [t3, ho, wrap64_id (x := (m : Int) + 16) (by omega) (by omega), wrap64_id (x := (m : Int) + 16 + 8) (by omega) (by omega), wrap64_id (x := (t : Int)) (by omega) (by omega), wrap64_id (by omega) (by omega)]
      congr 1
      omega
    · rw [if_neg c2, if_pos (by omega), if_pos (by omega)]
      obtain ⟨t, t1, t2, t3, t4, t5⟩ := key (x / 65536 % 256) 16 (by rw [Int.emod_eq_of_lt (by omega) (by omega), show ((2 : Int) ^ 16) = 65536 from rfl]) (by omega) (by omega) (by omega)
      refine ⟨t + 16, by omega, by omega, ?_, t4, t5⟩
      rw [t3, ho, wrap64_id (x := (m : Int) + 16) (by omega) (by omega), wrap64_id (x := (t : Int)) (by omega) (by omega), wrap64_id (by omega) (by omega)]
      congr 1
      omega
  · rw [if_neg c1]
    by_cases c2 : x ≥ 256
    · rw [if_pos c2, if_pos (by omega), if_pos (by omega)]
      obtain ⟨t, t1, t2, t3, t4, t5⟩ := key (x / 256 % 256) 8 (by rw [Int.emod_eq_of_lt (by omega) (by omega), show ((2 : Int) ^ 8) = 256 from rfl]) (by omega) (by omega) (by omega)
      refine ⟨t + 8, by omega, by omega, ?_, t4, t5⟩
      rw [t3, ho, wrap64_id (x := (m : Int) + 8) (by omega) (by omega), wrap64_id (x := (t : Int)) (by omega) (by omega), wrap64_id (by omega) (by omega)]
      congr 1
      omega
    · rw [if_neg c2, if_pos (by omega), if_pos (by omega)]
      obtain ⟨t, t1, t2, t3, t4, t5⟩ := key (x % 256) 0 (by rw [Int.emod_eq_of_lt (by omega) (by omega)]; simp) (by omega) (by omega) (by omega)
      refine ⟨t, by omega, by omega, ?_, t4, t5⟩
      rw [t3, ho, wrap64_id (x := (t : Int)) (by omega) (by omega), wrap64_id (by omega) (by omega)]
      congr 1
      omega
theorem Len64_ok (k : Nat) (x : Int) (h0 : 0 < x) (h1 : x < 18446744073709551616) :
    ∃ t : Nat, 1 ≤ t ∧ t ≤ 64 ∧ bits_Len64.f (k + 1) x = some (t : Int) ∧ (2 : Int) ^ (t - 1) ≤ x ∧ x < 2 ^ t := by
  unfold bits_Len64.f
  by_cases c : x ≥ 4294967296
  · rw [if_pos c]
    obtain ⟨t, t1, t2, t3, t4, t5⟩ := Len64_j0 k (x / 4294967296) 32 32 rfl (by omega) (by omega) (by omega)
    obtain ⟨e1, e2⟩ := bits_shift (x := x) (b := x / 4294967296) (t := t) (m := 32) (by rw [show ((2 : Int) ^ 32) = 4294967296 from rfl]) t1 t4 t5
    exact ⟨t + 32, by omega, by omega, t3, e1, e2⟩
  · rw [if_neg c]
    obtain ⟨t, t1, t2, t3, t4, t5⟩ := Len64_j0 k x 0 0 rfl (by omega) h0 (by omega)
    exact ⟨t, by omega, by omega, t3, t4, t5⟩
theorem LeadingZeros64_ok (k : Nat) (x : Int) (h0 : 0 < x) (h1 : x < 18446744073709551616) :
    ∃ s : Nat, s ≤ 63 ∧ bits_LeadingZeros64.f (k + 1) x = some (s : Int) ∧ (9223372036854775808 : Int) ≤ x * 2 ^ s ∧ x * 2 ^ s < 18446744073709551616 := by
  obtain ⟨t, t1, t2, t3, t4, t5⟩ := Len64_ok k x h0 h1
  refine ⟨64 - t, by omega, ?_, ?_, ?_⟩
  · unfold bits_LeadingZeros64.f
    rw [t3]
    simp only [Option.bind_some]
    rw [wrap64_id (by omega) (by omega)]
    congr 1
    omega
  · have e := two_pow_split (t - 1) (64 - t) 63 (by omega)
    have k1 := Int.mul_le_mul_of_nonneg_right t4 (Int.le_of_lt (two_pow_pos (64 - t)))
    rw [e] at k1
    exact k1
  · have e := two_pow_split t (64 - t) 64 (by omega)
    have k1 := Int.mul_lt_mul_of_pos_right t5 (two_pow_pos (64 - t))
    rw [e] at k1
    exact k1

/-! #### the loops of Div64: a guessed digit is lowered until it is the digit -/
section
variable {y yn1 yn0 u v q r : Int}
theorem kn_eq (hy : y = yn1 * 4294967296 + yn0) : q * y = q * yn1 * 4294967296 + q * yn0 := by rw [hy, Int.mul_add, Int.mul_assoc]
theorem kn_dec (hy : y = yn1 * 4294967296 + yn0) (hu0 : 0 ≤ u) (hu : u < y) (hv0 : 0 ≤ v) (hv : v < 4294967296) (hq : u = q * yn1 + r) (hq0 : 0 ≤ q) (hc : q ≥ 4294967296 ∨ q * yn0 > 4294967296 * r + v) : u * 4294967296 + v < q * y ∧ 1 ≤ q := by
  have e := kn_eq (q := q) hy
  have h : u * 4294967296 + v < q * y := by
    rcases hc with h | h
    · have := Int.mul_le_mul_of_nonneg_right h (by omega : 0 ≤ y)
      omega
    · omega
  refine ⟨h, ?_⟩
  rcases Int.lt_or_le 0 q with h' | h'
  · omega
  · have : q = 0 := by omega
    subst this
    rw [Int.zero_mul] at h
    omega
theorem kn_low (hy : y = yn1 * 4294967296 + yn0) (hu : u < y) (hu0 : 0 ≤ u) (hv : v < 4294967296) (hq : q * y ≤ u * 4294967296 + v) : q < 4294967296 := by
  rcases Int.lt_or_le q 4294967296 with h | h
  · exact h
  · have := Int.mul_le_mul_of_nonneg_right h (by omega : 0 ≤ y)
    omega
theorem kn_brk (hy : y = yn1 * 4294967296 + yn0) (h2 : 0 ≤ yn0) (h2' : yn0 < 4294967296) (hv0 : 0 ≤ v) (hq : u = q * yn1 + r) (hq0 : 0 ≤ q) (hq1 : q ≤ 4294967296) (hr : 4294967296 ≤ r) : q * y ≤ u * 4294967296 + v := by
  have e := kn_eq (q := q) hy
  have h := (mul_bd hq0 hq1 h2 (by omega : yn0 ≤ 4294967295)).2
  omega
end

theorem Div64_l0 (y s yn1 yn0 u v un0 : Int) (hy : y = yn1 * 4294967296 + yn0) (h1 : 2147483648 ≤ yn1) (h1' : yn1 < 4294967296) (h2 : 0 ≤ yn0) (h2' : yn0 < 4294967296) (hu0 : 0 ≤ u) (hu : u < y) (hv0 : 0 ≤ v) (hv : v < 4294967296) :
    ∀ (d k : Nat) (q r : Int), 2 * d + 2 ≤ k → 4294967296 ≤ r + d * 2147483648 → 0 ≤ r → r < 4294967296 → u = q * yn1 + r → 0 ≤ q → q ≤ 4294967297 → u * 4294967296 + v < q * y + y →
    ∃ k' q', k ≤ k' + (2 * d + 2) ∧ bits_Div64.l0 k y s yn1 yn0 u v un0 q r = bits_Div64.j2 k' y s yn1 yn0 u v un0 q' ∧ 0 ≤ q' ∧ q' < 4294967296 ∧ q' * y ≤ u * 4294967296 + v ∧ u * 4294967296 + v < q' * y + y := by
  intro d
  induction d with
  | zero => intro k q r _ h; intros; omega
  | succ d ih =>
    intro k q r hk hd hr0 hr hq hq0 hq1 hlt
    obtain ⟨k, rfl⟩ : ∃ m, k = m + 2 := ⟨k - 2, by omega⟩
    have dec : q ≥ 4294967296 ∨ q * yn0 > 4294967296 * r + v → ∃ k' q', k + 2 ≤ k' + (2 * (d + 1) + 2) ∧ bits_Div64.j1 (k + 1) y s yn1 yn0 u v un0 q r true = bits_Div64.j2 k' y s yn1 yn0 u v un0 q' ∧ 0 ≤ q' ∧ q' < 4294967296 ∧ q' * y ≤ u * 4294967296 + v ∧ u * 4294967296 + v < q' * y + y := by
      intro hc
      obtain ⟨g1, g2⟩ := kn_dec hy hu0 hu hv0 hv hq hq0 hc
      have e1 : (q - 1) * y = q * y - y := by rw [Int.sub_mul, Int.one_mul]
      have e2 : (q - 1) * yn1 = q * yn1 - yn1 := by rw [Int.sub_mul, Int.one_mul]
      simp only [bits_Div64.j1, ↓reduceIte]
      rw [wrap_id (x := q - 1) ⟨by omega, by omega⟩, wrap_id (x := r + yn1) ⟨by omega, by omega⟩]
      by_cases c : r + yn1 ≥ 4294967296
      · rw [if_pos c]
        have b := kn_brk (q := q - 1) (r := r + yn1) (u := u) (v := v) hy h2 h2' hv0 (by omega) (by omega) (by omega) c
        exact ⟨k, q - 1, by omega, rfl, by omega, kn_low hy hu hu0 hv b, b, by omega⟩
      · rw [if_neg c]
        obtain ⟨k', q', a1, a2, a3⟩ := ih k (q - 1) (r + yn1) (by omega) (by omega) (by omega) (by omega) (by omega) (by omega) (by omega) (by omega)
        exact ⟨k', q', by omega, a2, a3⟩
    simp only [bits_Div64.l0]
    by_cases c1 : q ≥ 4294967296
    · rw [if_pos c1]
      exact dec (.inl c1)
    · rw [if_neg c1]
      have b1 := mul_bd hq0 (by omega : q ≤ 4294967295) h2 (by omega : yn0 ≤ 4294967295)
      rw [wrap_id (x := q * yn0) ⟨by omega, by omega⟩, wrap_id (x := 4294967296 * r) ⟨by omega, by omega⟩, wrap_id (x := 4294967296 * r + v) ⟨by omega, by omega⟩]
      by_cases c2 : q * yn0 > 4294967296 * r + v
      · rw [decide_eq_true c2]
        exact dec (.inr c2)
      · rw [decide_eq_false c2]
        simp only [bits_Div64.j1, Bool.false_eq_true, ↓reduceIte]
        have e := kn_eq (q := q) hy
        exact ⟨k, q, by omega, rfl, hq0, by omega, by omega, hlt⟩
theorem Div64_l1 (y s yn1 yn0 u v q1 : Int) (hy : y = yn1 * 4294967296 + yn0) (h1 : 2147483648 ≤ yn1) (h1' : yn1 < 4294967296) (h2 : 0 ≤ yn0) (h2' : yn0 < 4294967296) (hu0 : 0 ≤ u) (hu : u < y) (hv0 : 0 ≤ v) (hv : v < 4294967296) (hs : 0 ≤ s) :
    ∀ (d k : Nat) (q r : Int), 2 * d + 2 ≤ k → 4294967296 ≤ r + d * 2147483648 → 0 ≤ r → r < 4294967296 → u = q * yn1 + r → 0 ≤ q → q ≤ 4294967297 → u * 4294967296 + v < q * y + y →
    ∃ q', bits_Div64.l1 k y s yn1 yn0 v q1 r u q = some (IntKind.u64.wrap (IntKind.u64.wrap (q1 * 4294967296) + q'), shr .u64 (IntKind.u64.wrap (IntKind.u64.wrap (IntKind.u64.wrap (u * 4294967296) + v) - IntKind.u64.wrap (q' * y))) s) ∧ 0 ≤ q' ∧ q' < 4294967296 ∧ q' * y ≤ u * 4294967296 + v ∧ u * 4294967296 + v < q' * y + y := by
  intro d
  induction d with
  | zero => intro k q r _ h; intros; omega
  | succ d ih =>
    intro k q r hk hd hr0 hr hq hq0 hq1 hlt
    obtain ⟨k, rfl⟩ : ∃ m, k = m + 2 := ⟨k - 2, by omega⟩
    have dec : q ≥ 4294967296 ∨ q * yn0 > 4294967296 * r + v → ∃ q', bits_Div64.j4 (k + 1) y s yn1 yn0 v q1 r u q true = some (IntKind.u64.wrap (IntKind.u64.wrap (q1 * 4294967296) + q'), shr .u64 (IntKind.u64.wrap (IntKind.u64.wrap (IntKind.u64.wrap (u * 4294967296) + v) - IntKind.u64.wrap (q' * y))) s) ∧ 0 ≤ q' ∧ q' < 4294967296 ∧ q' * y ≤ u * 4294967296 + v ∧ u * 4294967296 + v < q' * y + y := by
      intro hc
      obtain ⟨g1, g2⟩ := kn_dec hy hu0 hu hv0 hv hq hq0 hc
      have e1 : (q - 1) * y = q * y - y := by rw [Int.sub_mul, Int.one_mul]
      have e2 : (q - 1) * yn1 = q * yn1 - yn1 := by rw [Int.sub_mul, Int.one_mul]
      simp only [bits_Div64.j4, ↓reduceIte]
      rw [wrap_id (x := q - 1) ⟨by omega, by omega⟩, wrap_id (x := r + yn1) ⟨by omega, by omega⟩]
      by_cases c : r + yn1 ≥ 4294967296
      · rw [if_pos c, if_pos hs]
        have b := kn_brk (q := q - 1) (r := r + yn1) (u := u) (v := v) hy h2 h2' hv0 (by omega) (by omega) (by omega) c
        exact ⟨q - 1, rfl, by omega, kn_low hy hu hu0 hv b, b, by omega⟩
      · rw [if_neg c]
        exact ih k (q - 1) (r + yn1) (by omega) (by omega) (by omega) (by omega) (by omega) (by omega) (by omega) (by omega)
    simp only [bits_Div64.l1]
    by_cases c1 : q ≥ 4294967296
    · rw [if_pos c1]
      exact dec (.inl c1)
    · rw [if_neg c1]
      have b1 := mul_bd hq0 (by omega : q ≤ 4294967295) h2 (by omega : yn0 ≤ 4294967295)
      rw [wrap_id (x := q * yn0) ⟨by omega, by omega⟩, wrap_id (x := 4294967296 * r) ⟨by omega, by omega⟩, wrap_id (x := 4294967296 * r + v) ⟨by omega, by omega⟩]
      by_cases c2 : q * yn0 > 4294967296 * r + v
      · rw [decide_eq_true c2]
        exact dec (.inr c2)
      · rw [decide_eq_false c2]
        simp only [bits_Div64.j4, Bool.false_eq_true, ↓reduceIte]
        rw [if_pos hs]
        have e := kn_eq (q := q) hy
        exact ⟨q, rfl, hq0, by omega, by omega, hlt⟩
/-- bits.Div64, where the quotient fits: the quotient and the rest. -/
theorem Div64_ok (k : Nat) (hk : 20 ≤ k) (hi lo y : Int) (h0 : 0 ≤ hi) (hl : U64 lo) (hy : y < 18446744073709551616) (hlt : hi < y) :
    bits_Div64.f k hi lo y = some ((hi * 18446744073709551616 + lo) / y, (hi * 18446744073709551616 + lo) % y) := by
  obtain ⟨hl0, hl1⟩ := hl
  unfold bits_Div64.f
  rw [if_neg (by omega), if_neg (by omega)]
  by_cases c0 : hi = 0
  · subst c0
    rw [if_pos rfl, tdiv_nonneg_eq hl0, tmod_nonneg_eq hl0, wrap_id ⟨div_nonneg hl0 (by omega), ?_⟩]
    · simp
    · have := div_le hl0 (by omega : 0 < y)
      omega
  · rw [if_neg c0]
    obtain ⟨k, rfl⟩ : ∃ m, k = m + 1 := ⟨k - 1, by omega⟩
    obtain ⟨s, s1, s2, s3, s4⟩ := LeadingZeros64_ok k y (by omega) hy
    rw [s2]
    simp only [Option.bind_some]
    have P0 := two_pow_pos s
    have R0 := two_pow_pos (64 - s)
    have PR := two_pow_split s (64 - s) 64 (by omega)
    rw [show ((2 : Int) ^ 64) = 18446744073709551616 from rfl] at PR
    rw [wrap_id (x := (s : Int)) ⟨by omega, by omega⟩, wrap_id (x := 64 - (s : Int)) ⟨by omega, by omega⟩, if_pos (by omega), if_pos (by omega)]
    have es : (min ((s : Int).toNat) IntKind.u64.bits) = s := by simp [IntKind.bits] <;> omega
    have es' : (min ((64 - (s : Int)).toNat) IntKind.u64.bits) = 64 - s := by simp [IntKind.bits] <;> omega
    have eY : shl .u64 y (s : Int) = y * 2 ^ s := by unfold shl; rw [es, wrap_id ⟨by omega, s4⟩]
    have eH0 : hi * 2 ^ s ≤ y * 2 ^ s - 2 ^ s := by
      have := Int.mul_le_mul_of_nonneg_right (by omega : hi + 1 ≤ y) (Int.le_of_lt P0)
      rw [Int.add_mul, Int.one_mul] at this
      omega
    have eH1 : 0 ≤ hi * 2 ^ s := Int.mul_nonneg h0 (Int.le_of_lt P0)
    have eH : shl .u64 hi (s : Int) = hi * 2 ^ s := by unfold shl; rw [es, wrap_id ⟨eH1, by omega⟩]
    have eL : shr .u64 lo (64 - (s : Int)) = lo / 2 ^ (64 - s) := by unfold shr; rw [es']
    have eLl : lo / 2 ^ (64 - s) < 2 ^ s := div_lt R0 (by rw [PR]; exact hl1)
    have eL0 : 0 ≤ lo / 2 ^ (64 - s) := div_nonneg hl0 R0
    have eU : Go.bits .or .u64 (hi * 2 ^ s) (lo / 2 ^ (64 - s)) = hi * 2 ^ s + lo / 2 ^ (64 - s) :=
      bits_join .u64 64 (by decide) (fun n a b => wrap_id ⟨a, b⟩) s _ _ eH1 (Int.mul_emod_left _ _) (by show _ < (18446744073709551616 : Int); omega) eL0 eLl (by show _ < (18446744073709551616 : Int); omega)
    obtain ⟨d1, d2, d3⟩ := div_rest (n := lo) R0
    have eLo : lo * 2 ^ s = lo / 2 ^ (64 - s) * 18446744073709551616 + lo % 2 ^ (64 - s) * 2 ^ s := by
      conv => lhs; rw [← d1, Int.add_mul, Int.mul_assoc, Int.mul_comm (2 ^ (64 - s)), PR]
    have eR1 : lo % 2 ^ (64 - s) * 2 ^ s < 18446744073709551616 := by
      have := Int.mul_lt_mul_of_pos_right d3 P0
      rw [Int.mul_comm (2 ^ (64 - s)), PR] at this
      exact this
    have eR0 : 0 ≤ lo % 2 ^ (64 - s) * 2 ^ s := Int.mul_nonneg d2 (Int.le_of_lt P0)
    have eN : shl .u64 lo (s : Int) = lo % 2 ^ (64 - s) * 2 ^ s := by
      unfold shl
      rw [es, wrap_u64, eLo]
      omega
    have eA : Go.bits .and .u64 (y * 2 ^ s) 4294967295 = y * 2 ^ s % 4294967296 :=
      bits_mask .u64 64 (by decide) (fun n a b => wrap_id ⟨a, b⟩) 32 (by decide) _ (by omega) (by show _ < (18446744073709551616 : Int); omega)
    have eB : Go.bits .and .u64 (lo % 2 ^ (64 - s) * 2 ^ s) 4294967295 = lo % 2 ^ (64 - s) * 2 ^ s % 4294967296 :=
      bits_mask .u64 64 (by decide) (fun n a b => wrap_id ⟨a, b⟩) 32 (by decide) _ eR0 (by show _ < (18446744073709551616 : Int); omega)
    rw [eY, eH, eL, eN, eU, eA, eB]
    have eT : (hi * 18446744073709551616 + lo) * 2 ^ s = (hi * 2 ^ s + lo / 2 ^ (64 - s)) * 18446744073709551616 + lo % 2 ^ (64 - s) * 2 ^ s := by
      rw [Int.add_mul, eLo, Int.add_mul, Int.mul_assoc, Int.mul_comm 18446744073709551616 (2 ^ s), ← Int.mul_assoc]
      omega
    obtain ⟨z1, z2⟩ := div_scale (n := hi * 18446744073709551616 + lo) (y := y) P0 (by omega)
    rw [← z1, eT] at *
    generalize hU : hi * 2 ^ s + lo / 2 ^ (64 - s) = U at *
    generalize hV : lo % 2 ^ (64 - s) * 2 ^ s = V at *
    generalize hY : y * 2 ^ s = Y at *
    have hUY : U < Y := by omega
    have hU0 : 0 ≤ U := by omega
    have y1 : Y = Y / 4294967296 * 4294967296 + Y % 4294967296 := by omega
    rw [if_neg (by omega)]
    have n1 : 0 < Y / 4294967296 := by omega
    obtain ⟨g1, g2, g3⟩ := div_rest (n := U) n1
    have gq : U / (Y / 4294967296) < 4294967298 := div_lt n1 (by omega)
    have gq0 := div_nonneg hU0 n1
    rw [tdiv_nonneg_eq hU0, wrap_id (x := U / (Y / 4294967296)) ⟨gq0, by omega⟩]
    have gp0 : 0 ≤ U / (Y / 4294967296) * (Y / 4294967296) := Int.mul_nonneg gq0 (by omega)
    rw [wrap_id (x := U / (Y / 4294967296) * (Y / 4294967296)) ⟨gp0, by omega⟩, wrap_id (x := U - U / (Y / 4294967296) * (Y / 4294967296)) ⟨by omega, by omega⟩]
    have start : ∀ (u v : Int), 0 ≤ u → u < Y → 0 ≤ v → v < 4294967296 → u * 4294967296 + v < u / (Y / 4294967296) * Y + Y := by
      intro u v hu0 huY hv0 hv
      obtain ⟨f1, f2, f3⟩ := div_rest (n := u) n1
      have e := kn_eq (q := u / (Y / 4294967296)) y1
      have := Int.mul_nonneg (div_nonneg hu0 n1) (by omega : 0 ≤ Y % 4294967296)
      omega
    obtain ⟨k', q1, a1, a2, a3, a4, a5, a6⟩ := Div64_l0 Y s (Y / 4294967296) (Y % 4294967296) U (V / 4294967296) (V % 4294967296) y1 (by omega) (by omega) (by omega) (by omega) hU0 hUY (by omega) (by omega) 2 (k + 1) (U / (Y / 4294967296)) (U - U / (Y / 4294967296) * (Y / 4294967296)) (by omega) (by omega) (by omega) (by omega) (by omega) gq0 (by omega) (start U _ hU0 hUY (by omega) (by omega))
    rw [a2]
    obtain ⟨k', rfl⟩ : ∃ m, k' = m + 1 := ⟨k' - 1, by omega⟩
    simp only [bits_Div64.j2]
    rw [if_neg (by omega)]
    have w1 : IntKind.u64.wrap (IntKind.u64.wrap (IntKind.u64.wrap (U * 4294967296) + V / 4294967296) - IntKind.u64.wrap (q1 * Y)) = U * 4294967296 + V / 4294967296 - q1 * Y := by
      simp only [wrap_u64]
      omega
    rw [w1]
    generalize hu2 : U * 4294967296 + V / 4294967296 - q1 * Y = u2 at *
    obtain ⟨b1, b2, b3⟩ := div_rest (n := u2) n1
    have bq : u2 / (Y / 4294967296) < 4294967298 := div_lt n1 (by omega)
    have bq0 := div_nonneg (by omega : 0 ≤ u2) n1
    rw [tdiv_nonneg_eq (by omega : 0 ≤ u2), wrap_id (x := u2 / (Y / 4294967296)) ⟨bq0, by omega⟩]
    have bp0 : 0 ≤ u2 / (Y / 4294967296) * (Y / 4294967296) := Int.mul_nonneg bq0 (by omega)
    rw [wrap_id (x := u2 / (Y / 4294967296) * (Y / 4294967296)) ⟨bp0, by omega⟩, wrap_id (x := u2 - u2 / (Y / 4294967296) * (Y / 4294967296)) ⟨by omega, by omega⟩]
    obtain ⟨q0, c1, c2, c3, c4, c5⟩ := Div64_l1 Y s (Y / 4294967296) (Y % 4294967296) u2 (V % 4294967296) q1 y1 (by omega) (by omega) (by omega) (by omega) (by omega) (by omega) (by omega) (by omega) (by omega) 2 k' (u2 / (Y / 4294967296)) (u2 - u2 / (Y / 4294967296) * (Y / 4294967296)) (by omega) (by omega) (by omega) (by omega) (by omega) bq0 (by omega) (start u2 _ (by omega) (by omega) (by omega) (by omega))
    rw [c1]
    have eq : (q1 * 4294967296 + q0) * Y = q1 * Y * 4294967296 + q0 * Y := by
      rw [Int.add_mul, Int.mul_assoc, Int.mul_comm 4294967296 Y, ← Int.mul_assoc]
    obtain ⟨r1, r2⟩ := div_uniq (n := U * 18446744073709551616 + V) (y := Y) (q := q1 * 4294967296 + q0) (by omega) (by omega)
    have w2 : IntKind.u64.wrap (IntKind.u64.wrap (IntKind.u64.wrap (u2 * 4294967296) + V % 4294967296) - IntKind.u64.wrap (q0 * Y)) = u2 * 4294967296 + V % 4294967296 - q0 * Y := by
      simp only [wrap_u64]
      omega
    have w3 : IntKind.u64.wrap (IntKind.u64.wrap (q1 * 4294967296) + q0) = q1 * 4294967296 + q0 := by
      simp only [wrap_u64]
      omega
    rw [w2, w3, r1]
    have w4 : u2 * 4294967296 + V % 4294967296 - q0 * Y = (U * 18446744073709551616 + V) % Y := by rw [r2]; omega
    rw [w4, z2]
    unfold shr
    rw [es, Int.mul_ediv_cancel _ (by omega)]
/-- The number that two words stand for. -/
def wv (h l : Int) : Int := h * 18446744073709551616 + l
theorem wv_of {n : Int} : wv (n / 18446744073709551616) (n % 18446744073709551616) = n := by unfold wv; omega
theorem wv_zero {l : Int} : wv 0 l = l := by unfold wv; omega
theorem U64_hi {n : Int} (h0 : 0 ≤ n) (h1 : n < 340282366920938463463374607431768211456) : U64 (n / 18446744073709551616) := ⟨by omega, by omega⟩
theorem U64_lo {n : Int} : U64 (n % 18446744073709551616) := ⟨by omega, by omega⟩
theorem U64_zero : U64 0 := ⟨by decide, by decide⟩

section
variable {a0 a1 b0 b1 : Int}
theorem wide_Add_ok (h0 : U64 a0) (h1 : U64 a1) (h2 : U64 b0) (h3 : U64 b1) (h : wv a0 a1 + wv b0 b1 < 340282366920938463463374607431768211456) :
    wide_Add.f a0 a1 b0 b1 = some ((wv a0 a1 + wv b0 b1) / 18446744073709551616, (wv a0 a1 + wv b0 b1) % 18446744073709551616, 0) := by
  obtain ⟨_, _⟩ := h0; obtain ⟨_, _⟩ := h1; obtain ⟨_, _⟩ := h2; obtain ⟨_, _⟩ := h3
  unfold wv at *
  unfold wide_Add.f bits_Add64.f
  rw [if_pos ⟨by omega, by omega, by omega, by omega⟩]
  simp only [Option.bind_some]
  rw [if_pos ⟨by omega, by omega, by omega, by omega⟩]
  simp only [Option.bind_some]
  rw [if_pos (by omega)]
  congr 3 <;> omega
theorem wide_Small_ok (h0 : a0 = 0) : wide_Small.f a0 a1 = some (a1, 0) := by unfold wide_Small.f; rw [if_pos h0]
theorem wide_Small_err (h0 : a0 ≠ 0) : wide_Small.f a0 a1 = some (0, 16) := by unfold wide_Small.f; rw [if_neg h0]
theorem wide_Of_ok : wide_Of.f a0 = some (0, a0) := rfl
end
theorem and_mask {x : Int} (h0 : 0 ≤ x) (h1 : x < 18446744073709551616) : Go.bits .and .u64 x 4294967295 = x % 4294967296 :=
  bits_mask .u64 64 (by decide) (fun n a b => wrap_id ⟨a, b⟩) 32 (by decide) x h0 h1
theorem mul_parts (x y : Int) : x * y = (x / 4294967296) * (y / 4294967296) * 18446744073709551616 + ((x / 4294967296) * (y % 4294967296) + (x % 4294967296) * (y / 4294967296)) * 4294967296 + (x % 4294967296) * (y % 4294967296) := by
  have hx : x = x / 4294967296 * 4294967296 + x % 4294967296 := by omega
  have hy : y = y / 4294967296 * 4294967296 + y % 4294967296 := by omega
  generalize x / 4294967296 = x1 at *
  generalize x % 4294967296 = x0 at *
  generalize y / 4294967296 = y1 at *
  generalize y % 4294967296 = y0 at *
  subst hx; subst hy
  rw [Int.add_mul, Int.mul_add, Int.mul_add]
  have e1 : x1 * 4294967296 * (y1 * 4294967296) = x1 * y1 * 18446744073709551616 := by
    rw [Int.mul_assoc, Int.mul_comm 4294967296 (y1 * 4294967296), Int.mul_assoc y1, ← Int.mul_assoc]; rfl
  have e2 : x1 * 4294967296 * y0 = x1 * y0 * 4294967296 := by rw [Int.mul_assoc, Int.mul_comm 4294967296, ← Int.mul_assoc]
  have e3 : x0 * (y1 * 4294967296) = x0 * y1 * 4294967296 := by rw [Int.mul_assoc]
  rw [e1, e2, e3]
  omega
section
variable {x y : Int}
theorem parts_bd (hx : U64 x) (hy : U64 y) :
    (0 ≤ (x / 4294967296) * (y / 4294967296) ∧ (x / 4294967296) * (y / 4294967296) ≤ 18446744065119617025) ∧ (0 ≤ (x / 4294967296) * (y % 4294967296) ∧ (x / 4294967296) * (y % 4294967296) ≤ 18446744065119617025) ∧
    (0 ≤ (x % 4294967296) * (y / 4294967296) ∧ (x % 4294967296) * (y / 4294967296) ≤ 18446744065119617025) ∧ (0 ≤ (x % 4294967296) * (y % 4294967296) ∧ (x % 4294967296) * (y % 4294967296) ≤ 18446744065119617025) := by
  obtain ⟨_, _⟩ := hx; obtain ⟨_, _⟩ := hy
  have b : ∀ a b : Int, 0 ≤ a → a ≤ 4294967295 → 0 ≤ b → b ≤ 4294967295 → 0 ≤ a * b ∧ a * b ≤ 18446744065119617025 := fun a b h0 h1 h2 h3 => mul_bd h0 h1 h2 h3
  exact ⟨b _ _ (by omega) (by omega) (by omega) (by omega), b _ _ (by omega) (by omega) (by omega) (by omega), b _ _ (by omega) (by omega) (by omega) (by omega), b _ _ (by omega) (by omega) (by omega) (by omega)⟩
theorem bits_Mul64_ok (hx : U64 x) (hy : U64 y) : bits_Mul64.f x y = some (x * y / 18446744073709551616, x * y % 18446744073709551616) := by
  obtain ⟨⟨a1, a2⟩, ⟨b1, b2⟩, ⟨c1, c2⟩, ⟨d1, d2⟩⟩ := parts_bd hx hy
  have e := mul_parts x y
  obtain ⟨hx0, hx1⟩ := hx; obtain ⟨hy0, hy1⟩ := hy
  unfold bits_Mul64.f
  rw [and_mask hx0 hx1, and_mask hy0 hy1, wrap_u64 (x * y)]
  generalize x / 4294967296 * (y / 4294967296) = p11 at *
  generalize x / 4294967296 * (y % 4294967296) = p10 at *
  generalize x % 4294967296 * (y / 4294967296) = p01 at *
  generalize x % 4294967296 * (y % 4294967296) = p00 at *
  generalize x * y = n at *
  rw [wrap_id (x := p11) ⟨by omega, by omega⟩, wrap_id (x := p10) ⟨by omega, by omega⟩, wrap_id (x := p00) ⟨by omega, by omega⟩, wrap_id (x := p01) ⟨by omega, by omega⟩,
    wrap_id (x := p10 + p00 / 4294967296) ⟨by omega, by omega⟩, and_mask (by omega) (by omega), wrap_id (x := (p10 + p00 / 4294967296) % 4294967296 + p01) ⟨by omega, by omega⟩,
    wrap_id (x := p11 + (p10 + p00 / 4294967296) / 4294967296) ⟨by omega, by omega⟩, wrap_id ⟨by omega, by omega⟩]
  congr 2
  omega
theorem wide_Mul_ok (hx : U64 x) (hy : U64 y) : wide_Mul.f x y = some (x * y / 18446744073709551616, x * y % 18446744073709551616) := by
  unfold wide_Mul.f
  rw [bits_Mul64_ok hx hy]
  rfl
end
section
variable {a0 a1 d : Int}
theorem wide_Div_ok (k : Nat) (hk : 20 ≤ k) (h0 : U64 a0) (h1 : U64 a1) (hd : 0 < d) (hd1 : d < 18446744073709551616) :
    wide_Div.f k a0 a1 d = some (wv a0 a1 / d / 18446744073709551616, wv a0 a1 / d % 18446744073709551616, wv a0 a1 % d, 0) := by
  obtain ⟨r1, r2, r3⟩ := div_rest (n := a0) hd
  have l0 := div_nonneg h0.1 hd
  have l1 := div_le h0.1 hd
  unfold wide_Div.f
  rw [if_neg (by omega), Div64_ok k hk 0 a0 d (by omega) h0 hd1 hd]
  simp only [Option.bind_some, Int.zero_mul, Int.zero_add]
  rw [Div64_ok k hk (a0 % d) a1 d r2 h1 hd1 r3]
  simp only [Option.bind_some]
  obtain ⟨g1, g2⟩ := h1
  obtain ⟨s1, s2, s3⟩ := div_rest (n := a0 % d * 18446744073709551616 + a1) hd
  have q0 := div_nonneg (n := a0 % d * 18446744073709551616 + a1) (by omega) hd
  have q1 : (a0 % d * 18446744073709551616 + a1) / d < 18446744073709551616 := div_lt hd (by omega)
  generalize (a0 % d * 18446744073709551616 + a1) / d = Q at *
  generalize (a0 % d * 18446744073709551616 + a1) % d = R at *
  generalize a0 / d = P at *
  have e : (P * 18446744073709551616 + Q) * d = P * d * 18446744073709551616 + Q * d := by
    rw [Int.add_mul, Int.mul_assoc, Int.mul_comm 18446744073709551616 d, ← Int.mul_assoc]
  obtain ⟨z1, z2⟩ := div_uniq (n := wv a0 a1) (y := d) (q := P * 18446744073709551616 + Q) (by unfold wv; omega) (by unfold wv; omega)
  rw [z1, z2, e]
  unfold wv
  congr 2
  · omega
  · congr 2
    · omega
    · congr 1
      omega
end
/-- A valid limit: Burst, Rate, Per. -/
def VL (b r p : Int) : Prop := 1 ≤ b ∧ b ≤ 1000000000 ∧ 0 ≤ r ∧ r ≤ 1000000000 ∧ 1 ≤ p ∧ p ≤ 1000000000
/-- A valid bucket: its limit, Level, Part, At. -/
def VB (b r p l q t : Int) : Prop := VL b r p ∧ 0 ≤ l ∧ l ≤ b ∧ 0 ≤ q ∧ q < p ∧ (l = b → q = 0) ∧ U64 t
section
variable {b r p l q t s : Int}
theorem CheckLimit_ok (h : VL b r p) : bucket_CheckLimit.f b r p = some 0 := by
  obtain ⟨_, _, _, _, _, _⟩ := h
  unfold bucket_CheckLimit.f
  rw [if_neg (by omega), if_neg (by omega), if_neg (by omega), if_neg (by omega), if_neg (by omega), if_neg (by omega)]
theorem CheckLimit_bad (h : ¬ VL b r p) : bucket_CheckLimit.f b r p = some 8 := by
  unfold bucket_CheckLimit.f
  unfold VL at h
  repeat' split
  all_goals first | rfl | (exfalso; omega)
theorem Check_ok (h : VB b r p l q t) : bucket_Check.f b r p l q t = some 0 := by
  obtain ⟨hl, h1, h2, h3, h4, h5, _⟩ := h
  have hb := hl.1
  have hb' := hl.2.1
  unfold bucket_Check.f
  rw [CheckLimit_ok hl]
  simp only [Option.bind_some, ↓reduceIte]
  rw [if_neg (by omega), wrap64_id (x := b - l) (by omega) (by omega), if_neg (by omega), if_neg (by omega), if_neg (by omega)]
  by_cases c : b - l = 0
  · rw [if_pos c, if_neg (by have := h5 (by omega); omega)]
  · rw [if_neg c]
theorem Check_bad (ht : U64 t) (hl : I64 l) (h : ¬ VB b r p l q t) : bucket_Check.f b r p l q t = some 8 := by
  obtain ⟨_, _⟩ := hl
  unfold bucket_Check.f
  by_cases hv : VL b r p
  · rw [CheckLimit_ok hv]
    simp only [Option.bind_some, ↓reduceIte]
    have h' : ¬ (0 ≤ l ∧ l ≤ b ∧ 0 ≤ q ∧ q < p ∧ (l = b → q = 0)) := fun g => h ⟨hv, g.1, g.2.1, g.2.2.1, g.2.2.2.1, g.2.2.2.2, ht⟩
    obtain ⟨_, _, _, _, _, _⟩ := hv
    by_cases c1 : l < 0
    · rw [if_pos c1]
    · rw [if_neg c1, wrap64_id (x := b - l) (by omega) (by omega)]
      repeat' split
      all_goals first | rfl | (exfalso; omega)
  · rw [CheckLimit_bad hv]
    simp
/-- Level, Part and At behind a refill at t. -/
def fN (r q s t : Int) : Int := (t - s) * r + q
def fL (b r p l q s t : Int) : Int := if t ≤ s then l else if fN r q s t / p ≥ b - l then b else l + fN r q s t / p
def fP (b r p l q s t : Int) : Int := if t ≤ s then q else if fN r q s t / p ≥ b - l then 0 else fN r q s t % p
def fT (s t : Int) : Int := if t ≤ s then s else t
theorem fN_bd (hv : VB b r p l q s) (ht : U64 t) (h : s ≤ t) : 0 ≤ fN r q s t ∧ fN r q s t ≤ 18446744073709551615000000000 + 1000000000 ∧ 0 ≤ (t - s) * r ∧ (t - s) * r ≤ 18446744073709551615000000000 := by
  obtain ⟨⟨_, _, _, _, _, _⟩, _, _, _, _, _, ⟨_, _⟩⟩ := hv
  obtain ⟨_, _⟩ := ht
  have := mul_bd (by omega : 0 ≤ t - s) (by omega : t - s ≤ 18446744073709551615) (by assumption : 0 ≤ r) (by assumption : r ≤ 1000000000)
  unfold fN
  omega
theorem fill_ok (k : Nat) (hk : 20 ≤ k) (hv : VB b r p l q s) (ht : U64 t) : bucket_fill.f k b r p l q s t = some (b, r, p, fL b r p l q s t, fP b r p l q s t, fT s t) := by
  unfold bucket_fill.f fL fP fT
  by_cases c : t ≤ s
  · rw [if_pos c, if_pos c, if_pos c, if_pos c]
  · rw [if_neg c, if_neg c, if_neg c, if_neg c]
    obtain ⟨n0, n1, m0, m1⟩ := fN_bd hv ht (by omega : s ≤ t)
    obtain ⟨⟨b0, b1, r0, r1, p0, p1⟩, l0, l1, q0, q1, _, ⟨s0, s1⟩⟩ := hv
    obtain ⟨t0, t1⟩ := ht
    have ur : U64 r := ⟨by omega, by omega⟩
    have uq : U64 q := ⟨by omega, by omega⟩
    have up : U64 p := ⟨by omega, by omega⟩
    have ud : U64 (t - s) := ⟨by omega, by omega⟩
    have ub : U64 (b - l) := ⟨by omega, by omega⟩
    rw [wrap_id ud, wrap_id ur, wrap_id uq, wrap_id up, wide_Mul_ok ud ur, wide_Of_ok]
    simp only [Option.bind_some]
    rw [wide_Add_ok (U64_hi m0 (by omega)) U64_lo U64_zero uq (by rw [wv_of, wv_zero]; omega), wv_of, wv_zero]
    simp only [Option.bind_some]
    have e : (t - s) * r + q = fN r q s t := rfl
    rw [e, wide_Div_ok k hk (U64_hi n0 (by omega)) U64_lo (by omega) up.2, wv_of]
    simp only [Option.bind_some]
    have d0 := div_nonneg n0 (by omega : 0 < p)
    obtain ⟨e1, e2, e3⟩ := div_rest (n := fN r q s t) (by omega : 0 < p)
    by_cases c2 : fN r q s t / p < 18446744073709551616
    · rw [wide_Small_ok (by omega)]
      simp only [Option.bind_some, ↓reduceIte]
      rw [wrap64_id (x := b - l) (by omega) (by omega), wrap_id ub, show fN r q s t / p % 18446744073709551616 = fN r q s t / p by omega]
      by_cases c3 : fN r q s t / p ≥ b - l
      · rw [if_pos c3, if_pos c3, if_pos c3]
      · rw [if_neg c3, if_neg c3, if_neg c3, wrap64_id (x := fN r q s t / p) (by omega) (by omega), wrap64_id (by omega) (by omega), wrap64_id (by omega) (by omega)]
    · rw [wide_Small_err (by omega)]
      simp only [Option.bind_some]
      rw [if_neg (by decide), if_pos (by omega), if_pos (by omega)]
theorem fT_U64 (hs : U64 s) (ht : U64 t) : U64 (fT s t) := by unfold fT; split <;> assumption
theorem fill_valid (hv : VB b r p l q s) (ht : U64 t) : VB b r p (fL b r p l q s t) (fP b r p l q s t) (fT s t) := by
  have hv0 := hv
  obtain ⟨hl, l0, l1, q0, q1, hf, hs⟩ := hv
  refine ⟨hl, ?_⟩
  have hT := fT_U64 hs ht
  obtain ⟨b0, b1, r0, r1, p0, p1⟩ := hl
  by_cases c : t ≤ s
  · unfold fL fP
    rw [if_pos c, if_pos c]
    exact ⟨l0, l1, q0, q1, hf, hT⟩
  · obtain ⟨n0, n1, m0, m1⟩ := fN_bd hv0 ht (by omega : s ≤ t)
    unfold fL fP
    rw [if_neg c, if_neg c]
    obtain ⟨e1, e2, e3⟩ := div_rest (n := fN r q s t) (by omega : 0 < p)
    have d0 := div_nonneg n0 (by omega : 0 < p)
    by_cases c3 : fN r q s t / p ≥ b - l
    · rw [if_pos c3, if_pos c3]
      exact ⟨by omega, by omega, by omega, by omega, fun _ => rfl, hT⟩
    · rw [if_neg c3, if_neg c3]
      exact ⟨by omega, by omega, e2, e3, fun h => by omega, hT⟩
theorem Refill_ok (k : Nat) (hk : 20 ≤ k) (hv : VB b r p l q s) (ht : U64 t) : bucket_Refill.f k b r p l q s t = some (b, r, p, fL b r p l q s t, fP b r p l q s t, fT s t, 0) := by
  unfold bucket_Refill.f
  rw [Check_ok hv]
  simp only [Option.bind_some, ↓reduceIte]
  rw [fill_ok k hk hv ht]
  rfl
theorem charge_valid (hv : VB b r p l q s) {c : Int} (hc : 0 ≤ c) (h : c ≤ l) : VB b r p (l - c) q s := by
  obtain ⟨hl, l0, l1, q0, q1, hf, hs⟩ := hv
  exact ⟨hl, by omega, by omega, q0, q1, fun e => hf (by omega), hs⟩
end
section
variable {b r p l q t s c : Int}
theorem ref_CheckLimit_ok (h : VL b r p) : spigotref03_CheckLimit.f b r p = some 0 := CheckLimit_ok h
theorem ref_CheckLimit_bad (h : ¬ VL b r p) : spigotref03_CheckLimit.f b r p = some 8 := CheckLimit_bad h
theorem ref_Check_ok (h : VB b r p l q s) : spigotref03_Check.f b r p l q s = some 0 := by
  obtain ⟨hl, h1, h2, h3, h4, h5, _⟩ := h
  unfold spigotref03_Check.f
  rw [ref_CheckLimit_ok hl]
  simp only [Option.bind_some, ↓reduceIte]
  rw [if_neg (by omega), if_neg (by omega), if_neg (by omega), if_neg (by omega)]
  by_cases c : l = b
  · rw [if_pos c, if_pos (h5 c)]
  · rw [if_neg c]
theorem ref_Check_bad (ht : U64 s) (h : ¬ VB b r p l q s) : spigotref03_Check.f b r p l q s = some 8 := by
  unfold spigotref03_Check.f
  by_cases hv : VL b r p
  · rw [ref_CheckLimit_ok hv]
    simp only [Option.bind_some, ↓reduceIte]
    have h' : ¬ (0 ≤ l ∧ l ≤ b ∧ 0 ≤ q ∧ q < p ∧ (l = b → q = 0)) := fun g => h ⟨hv, g.1, g.2.1, g.2.2.1, g.2.2.2.1, g.2.2.2.2, ht⟩
    repeat' split
    all_goals first | rfl | (exfalso; omega)
  · rw [ref_CheckLimit_bad hv]
    simp
end
/-- A valid bucket; one whose fields are in their ranges; refilled; with a cost less. -/
def bV (x : S37) : Prop := VB x.f0.f0 x.f0.f1 x.f0.f2 x.f1 x.f2 x.f3
def bR (x : S37) : Prop := I64 x.f0.f0 ∧ I64 x.f0.f1 ∧ I64 x.f0.f2 ∧ I64 x.f1 ∧ I64 x.f2 ∧ U64 x.f3
def bfill (t : Int) (x : S37) : S37 := ⟨x.f0, fL x.f0.f0 x.f0.f1 x.f0.f2 x.f1 x.f2 x.f3 t, fP x.f0.f0 x.f0.f1 x.f0.f2 x.f1 x.f2 x.f3 t, fT x.f3 t⟩
def bsub (c : Int) (x : S37) : S37 := ⟨x.f0, x.f1 - c, x.f2, x.f3⟩
theorem bfill_valid {t : Int} {x : S37} (h : bV x) (ht : U64 t) : bV (bfill t x) := fill_valid h ht
theorem bsub_valid {c : Int} {x : S37} (h : bV x) (h0 : 0 ≤ c) (h1 : c ≤ x.f1) : bV (bsub c x) := charge_valid h h0 h1
theorem rdB_at {l : List S37} {j : Nat} (h : j < l.length) : rd_T37 l (j : Int) = l[j] := by
  unfold rd_T37
  rw [List.getD_eq_getElem?_getD, Int.toNat_natCast, List.getElem?_eq_getElem h]
  rfl
theorem drop_cons {α : Type} {l : List α} {j : Nat} (h : j < l.length) : l.drop j = l[j] :: l.drop (j + 1) := List.drop_eq_getElem_cons h
/-! #### costs below 0 -/
theorem neg_idx (cs : List Int) (hn : cs.length ≤ 1000000) : ∀ (d j k : Nat), j + d = cs.length → d + 2 ≤ k → ∃ i : Int, slices_IndexFunc_int64_c48.l0 k cs (cs.length : Int) (j : Int) = some i ∧ (0 ≤ i ↔ ∃ c ∈ cs.drop j, c < 0) := by
  intro d
  induction d with
  | zero =>
    intro j k hj hk
    obtain ⟨k, rfl⟩ : ∃ m, k = m + 1 := ⟨k - 1, by omega⟩
    simp only [slices_IndexFunc_int64_c48.l0]
    rw [if_neg (by omega), List.drop_eq_nil_of_le (by omega)]
    exact ⟨-1, rfl, fun h => absurd h (by decide), fun ⟨_, h, _⟩ => by cases h⟩
  | succ d ih =>
    intro j k hj hk
    obtain ⟨k, rfl⟩ : ∃ m, k = m + 1 := ⟨k - 1, by omega⟩
    have hjl : j < cs.length := by omega
    simp only [slices_IndexFunc_int64_c48.l0]
    rw [if_pos (by omega), if_pos (by omega), if_pos (by omega), rd_at hjl, drop_cons hjl]
    simp only [levels_check_1.f, Option.bind_some]
    by_cases c : cs[j] < 0
    · rw [if_pos (decide_eq_true c)]
      exact ⟨j, rfl, fun _ => ⟨_, List.mem_cons_self, c⟩, fun _ => by omega⟩
    · rw [if_neg (by simpa using c), wj (by omega)]
      obtain ⟨i, e, h⟩ := ih (j + 1) k (by omega) (by omega)
      refine ⟨i, e, h.trans ⟨fun ⟨x, hx, h0⟩ => ⟨x, List.mem_cons_of_mem _ hx, h0⟩, fun ⟨x, hx, h0⟩ => ?_⟩⟩
      rcases List.mem_cons.1 hx with g | g
      · rw [g] at h0
        exact absurd h0 c
      · exact ⟨x, g, h0⟩
theorem neg_any (cs : List Int) (hn : cs.length ≤ 1000000) (k : Nat) (hk : cs.length + 2 ≤ k) (z : Int) : ∃ b, slices_ContainsFunc_int64_c48.f k cs z = some b ∧ (b = true ↔ ∃ c ∈ cs, c < 0) := by
  obtain ⟨i, e, h⟩ := neg_idx cs hn cs.length 0 k (by omega) (by omega)
  unfold slices_ContainsFunc_int64_c48.f slices_IndexFunc_int64_c48.f
  rw [show (0 : Int) = ((0 : Nat) : Int) from rfl, e]
  rw [List.drop_zero] at h
  exact ⟨_, rfl, by rw [decide_eq_true_iff]; exact h⟩
/-! #### checks -/
theorem check_many {l : List S37} (h : 8 < l.length) (k : Nat) (cs : List Int) : levels_check.f k l cs = some 4 := by
  unfold levels_check.f
  rw [if_pos (by omega)]
theorem check_loop (l : List S37) (cs : List Int) (hn : cs.length ≤ 1000000) (hl : l.length ≤ 8) : ∀ (d j k : Nat), j + d = l.length → d + cs.length + 4 ≤ k →
    ((∀ x ∈ l.drop j, bV x) → ∃ b, levels_check.l0 k l cs (l.length : Int) (j : Int) = some (if b = true then 2 else 0) ∧ (b = true ↔ ∃ c ∈ cs, c < 0)) ∧
    ((∀ x ∈ l, bR x) → ¬ (∀ x ∈ l.drop j, bV x) → levels_check.l0 k l cs (l.length : Int) (j : Int) = some 8) := by
  intro d
  induction d with
  | zero =>
    intro j k hj hk
    obtain ⟨k, rfl⟩ : ∃ m, k = m + 1 := ⟨k - 1, by omega⟩
    simp only [levels_check.l0]
    rw [if_neg (by omega), List.drop_eq_nil_of_le (by omega)]
    refine ⟨fun _ => ?_, fun _ h => absurd (fun x hx => by cases hx) h⟩
    obtain ⟨b, e, h⟩ := neg_any cs hn k (by omega) 0
    rw [e]
    refine ⟨b, ?_, h⟩
    simp only [Option.bind_some]
    split <;> rfl
  | succ d ih =>
    intro j k hj hk
    obtain ⟨k, rfl⟩ : ∃ m, k = m + 1 := ⟨k - 1, by omega⟩
    have hjl : j < l.length := by omega
    obtain ⟨i1, i2⟩ := ih (j + 1) k (by omega) (by omega)
    simp only [levels_check.l0]
    rw [if_pos (by omega), if_pos (by omega), if_pos (by omega), rdB_at hjl, drop_cons hjl, wj (by omega)]
    constructor
    · intro h
      rw [Check_ok (h _ List.mem_cons_self)]
      simp only [Option.bind_some, ↓reduceIte]
      exact i1 fun x hx => h x (List.mem_cons_of_mem _ hx)
    · intro hr h
      by_cases c : bV l[j]
      · rw [Check_ok c]
        simp only [Option.bind_some, ↓reduceIte]
        refine i2 hr fun g => h fun x hx => ?_
        rcases List.mem_cons.1 hx with e | e
        · rw [e]
          exact c
        · exact g x e
      · have hx := hr l[j] (List.getElem_mem hjl)
        rw [Check_bad hx.2.2.2.2.2 hx.2.2.2.1 c]
        rfl
/-- A valid row. -/
def lV (l : List S37) : Prop := l.length ≤ 8 ∧ ∀ x ∈ l, bV x
theorem check_ok {l : List S37} (h : lV l) (cs : List Int) (hn : cs.length ≤ 1000000) (k : Nat) (hk : cs.length + 12 ≤ k) (hc : ∀ c ∈ cs, 0 ≤ c) : levels_check.f k l cs = some 0 := by
  unfold levels_check.f
  obtain ⟨h1, h2⟩ := h
  rw [if_neg (by omega)]
  obtain ⟨b, e, g⟩ := (check_loop l cs hn h1 l.length 0 k (by omega) (by omega)).1 (by rw [List.drop_zero]; exact h2)
  rw [show (0 : Int) = ((0 : Nat) : Int) from rfl, e]
  have : ¬ b = true := fun hb => by obtain ⟨c, m, n⟩ := g.1 hb; have := hc c m; omega
  rw [if_neg this]
  rfl
theorem check_bad {l : List S37} (h1 : l.length ≤ 8) (hr : ∀ x ∈ l, bR x) (h : ¬ lV l) (cs : List Int) (hn : cs.length ≤ 1000000) (k : Nat) (hk : cs.length + 12 ≤ k) : levels_check.f k l cs = some 8 := by
  unfold levels_check.f
  rw [if_neg (by omega)]
  have e := (check_loop l cs hn h1 l.length 0 k (by omega) (by omega)).2 hr (by rw [List.drop_zero]; exact fun g => h ⟨h1, g⟩)
  rw [show (0 : Int) = ((0 : Nat) : Int) from rfl, e]
/-! #### refilling -/
theorem clone_ok {l : List S37} (h : l.length ≤ 1000000) : slices_Clone_api_Bucket.f l = some l := by
  unfold slices_Clone_api_Bucket.f
  simp only [Option.bind_some, List.length_nil, List.nil_append]
  rw [if_pos (by omega)]
theorem fill_loop (l : List S37) (t : Int) (ht : U64 t) (hn : l.length ≤ 1000000) (hv : ∀ x ∈ l, bV x) : ∀ (d j k : Nat), j + d = l.length → d + 25 ≤ k → levels_fill.l0 k t ((l.map (bfill t)).take j ++ l.drop j) (l.length : Int) (j : Int) = some (l.map (bfill t)) := by
  intro d
  induction d with
  | zero =>
    intro j k hj hk
    obtain ⟨k, rfl⟩ : ∃ m, k = m + 1 := ⟨k - 1, by omega⟩
    simp only [levels_fill.l0]
    rw [if_neg (by omega), List.drop_eq_nil_of_le (by omega), List.take_of_length_le (by rw [List.length_map]; omega), List.append_nil]
  | succ d ih =>
    intro j k hj hk
    obtain ⟨k, rfl⟩ : ∃ m, k = m + 1 := ⟨k - 1, by omega⟩
    have hjl : j < l.length := by omega
    have hlen := walk_len (bfill t) l j (by omega)
    have hj' : j < ((l.map (bfill t)).take j ++ l.drop j).length := by omega
    simp only [levels_fill.l0]
    rw [if_pos (by omega), if_pos (by omega), if_pos (by omega), rdB_at hj', walk_get (bfill t) l hjl hj']
    rw [Refill_ok k (by omega) (hv _ (List.getElem_mem hjl)) ht]
    simp only [Option.bind_some, Int.toNat_natCast]
    have e := set_walk (bfill t) l hjl
    unfold bfill at e
    rw [wj (by omega)]
    refine Eq.trans ?_ (ih (j + 1) k (by omega) (by omega))
    congr 1
theorem fill_row {l : List S37} {t : Int} (ht : U64 t) (hn : l.length ≤ 1000000) (hv : ∀ x ∈ l, bV x) (k : Nat) (hk : l.length + 25 ≤ k) : levels_fill.f k l t = some (l.map (bfill t)) := by
  unfold levels_fill.f
  rw [clone_ok hn]
  simp only [Option.bind_some]
  have e := fill_loop l t ht hn hv l.length 0 k (by omega) hk
  rw [List.take_zero, List.drop_zero, List.nil_append] at e
  exact e
def lHolds (l : List S37) (c : Int) : Bool := !(l.any fun b => decide (b.f1 < c))
theorem lHolds_iff {l : List S37} {c : Int} : lHolds l c = true ↔ ∀ x ∈ l, c ≤ x.f1 := by
  unfold lHolds
  rw [Bool.not_eq_true', List.any_eq_false]
  constructor
  · intro h x hx
    have := h x hx
    rw [decide_eq_true_iff] at this
    omega
  · intro h x hx
    have := h x hx
    rw [decide_eq_true_iff]
    omega
theorem holds_row (l : List S37) (c : Int) : levels_holds.f l c = some (lHolds l c) := rfl
def lTake (l : List S37) (t c : Int) : List S37 × Bool := if lHolds (l.map (bfill t)) c = true then ((l.map (bfill t)).map (bsub c), true) else (l.map (bfill t), false)
theorem bsub_wrap {c : Int} {x : S37} (h : bV x) (h0 : 0 ≤ c) (h1 : c ≤ x.f1) : wrap64 (x.f1 - c) = x.f1 - c := by
  obtain ⟨⟨_, _, _⟩, _, _, _⟩ := h
  exact wrap64_id (by omega) (by omega)
theorem take_loop (l : List S37) (c : Int) (h0 : 0 ≤ c) (hn : l.length ≤ 1000000) (hv : ∀ x ∈ l, bV x) (hc : ∀ x ∈ l, c ≤ x.f1) : ∀ (d j k : Nat), j + d = l.length → d + 1 ≤ k → levels_take.l0 k c ((l.map (bsub c)).take j ++ l.drop j) (l.length : Int) (j : Int) = some (l.map (bsub c), true) := by
  intro d
  induction d with
  | zero =>
    intro j k hj hk
    obtain ⟨k, rfl⟩ : ∃ m, k = m + 1 := ⟨k - 1, by omega⟩
    simp only [levels_take.l0]
    rw [if_neg (by omega), List.drop_eq_nil_of_le (by omega), List.take_of_length_le (by rw [List.length_map]; omega), List.append_nil]
  | succ d ih =>
    intro j k hj hk
    obtain ⟨k, rfl⟩ : ∃ m, k = m + 1 := ⟨k - 1, by omega⟩
    have hjl : j < l.length := by omega
    have hlen := walk_len (bsub c) l j (by omega)
    have hj' : j < ((l.map (bsub c)).take j ++ l.drop j).length := by omega
    simp only [levels_take.l0]
    rw [if_pos (by omega), if_pos (by omega), if_pos (by omega), rdB_at hj', walk_get (bsub c) l hjl hj', bsub_wrap (hv _ (List.getElem_mem hjl)) h0 (hc _ (List.getElem_mem hjl))]
    simp only [Int.toNat_natCast]
    have e := set_walk (bsub c) l hjl
    unfold bsub at e
    rw [wj (by omega)]
    refine Eq.trans ?_ (ih (j + 1) k (by omega) (by omega))
    congr 1
theorem map_valid {l : List S37} {t : Int} (ht : U64 t) (hv : ∀ x ∈ l, bV x) : ∀ x ∈ l.map (bfill t), bV x := by
  intro x hx
  obtain ⟨y, hy, rfl⟩ := List.mem_map.1 hx
  exact bfill_valid (hv y hy) ht
theorem take_row {l : List S37} {t c : Int} (ht : U64 t) (h0 : 0 ≤ c) (hn : l.length ≤ 1000000) (hv : ∀ x ∈ l, bV x) (k : Nat) (hk : l.length + 25 ≤ k) : levels_take.f k l t c = some (lTake l t c) := by
  unfold levels_take.f
  rw [fill_row ht hn hv k hk]
  simp only [Option.bind_some]
  rw [holds_row]
  simp only [Option.bind_some]
  unfold lTake
  by_cases g : lHolds (l.map (bfill t)) c = true
  · rw [if_pos g, if_pos g]
    have e := take_loop (l.map (bfill t)) c h0 (by rw [List.length_map]; exact hn) (map_valid ht hv) (lHolds_iff.1 g) (l.map (bfill t)).length 0 k (by omega) (by rw [List.length_map]; omega)
    rw [List.take_zero, List.drop_zero, List.nil_append] at e
    exact e
  · rw [if_neg g, if_neg g]
/-! #### the least level -/
theorem rcheck_loop (l : List S37) (hl : l.length ≤ 8) : ∀ (d j k : Nat), j + d = l.length → d + 1 ≤ k →
    ((∀ x ∈ l.drop j, bV x) → spigotref04_Check.l0 k l (j : Int) = some 0) ∧ ((∀ x ∈ l, bR x) → ¬ (∀ x ∈ l.drop j, bV x) → spigotref04_Check.l0 k l (j : Int) = some 8) := by
  intro d
  induction d with
  | zero =>
    intro j k hj hk
    obtain ⟨k, rfl⟩ : ∃ m, k = m + 1 := ⟨k - 1, by omega⟩
    simp only [spigotref04_Check.l0]
    rw [if_neg (by omega), List.drop_eq_nil_of_le (by omega)]
    exact ⟨fun _ => rfl, fun _ h => absurd (fun x hx => by cases hx) h⟩
  | succ d ih =>
    intro j k hj hk
    obtain ⟨k, rfl⟩ : ∃ m, k = m + 1 := ⟨k - 1, by omega⟩
    have hjl : j < l.length := by omega
    obtain ⟨i1, i2⟩ := ih (j + 1) k (by omega) (by omega)
    simp only [spigotref04_Check.l0]
    rw [if_pos (by omega), if_pos (by omega), rdB_at hjl, drop_cons hjl, wj (by omega)]
    constructor
    · intro h
      rw [ref_Check_ok (h _ List.mem_cons_self)]
      simp only [Option.bind_some, ↓reduceIte]
      exact i1 fun x hx => h x (List.mem_cons_of_mem _ hx)
    · intro hr h
      by_cases c : bV l[j]
      · rw [ref_Check_ok c]
        simp only [Option.bind_some, ↓reduceIte]
        refine i2 hr fun g => h fun x hx => ?_
        rcases List.mem_cons.1 hx with e | e
        · rw [e]
          exact c
        · exact g x e
      · have hx := hr l[j] (List.getElem_mem hjl)
        rw [ref_Check_bad hx.2.2.2.2.2 c]
        rfl
theorem rcheck_many {l : List S37} (h : 8 < l.length) (k : Nat) : spigotref04_Check.f k l = some 4 := by
  unfold spigotref04_Check.f
  rw [if_pos (by omega)]
theorem rcheck_ok {l : List S37} (h : lV l) (k : Nat) (hk : 12 ≤ k) : spigotref04_Check.f k l = some 0 := by
  unfold spigotref04_Check.f
  rw [if_neg (by have := h.1; omega)]
  exact (rcheck_loop l h.1 l.length 0 k (by omega) (by have := h.1; omega)).1 (by rw [List.drop_zero]; exact h.2)
theorem rcheck_bad {l : List S37} (h1 : l.length ≤ 8) (hr : ∀ x ∈ l, bR x) (h : ¬ lV l) (k : Nat) (hk : 12 ≤ k) : spigotref04_Check.f k l = some 8 := by
  unfold spigotref04_Check.f
  rw [if_neg (by omega)]
  exact (rcheck_loop l h1 l.length 0 k (by omega) (by omega)).2 hr (by rw [List.drop_zero]; exact fun g => h ⟨h1, g⟩)
/-- The error of a row: 4, 8, or 0. -/
theorem check_cases (l : List S37) (hr : ∀ x ∈ l, bR x) : lV l ∨ ∃ e : Int, e ≠ 0 ∧ ∀ (k : Nat) (cs : List Int), cs.length ≤ 1000000 → cs.length + 12 ≤ k → levels_check.f k l cs = some e ∧ spigotref04_Check.f k l = some e := by
  by_cases h : lV l
  · exact Or.inl h
  · refine Or.inr ?_
    by_cases h8 : 8 < l.length
    · exact ⟨4, by decide, fun k cs _ _ => ⟨check_many h8 k cs, rcheck_many h8 k⟩⟩
    · exact ⟨8, by decide, fun k cs hn hk => ⟨check_bad (by omega) hr h cs hn k hk, rcheck_bad (by omega) hr h k (by omega)⟩⟩
/-! #### the same row -/
theorem same_loop (l m : List S37) (hn : l.length ≤ 1000000) (e : l = m) : ∀ (d j k : Nat), j + d = l.length → d + 1 ≤ k → spigotref04_Same.l0 k l m (j : Int) = some true := by
  subst e
  intro d
  induction d with
  | zero =>
    intro j k hj hk
    obtain ⟨k, rfl⟩ : ∃ m, k = m + 1 := ⟨k - 1, by omega⟩
    simp only [spigotref04_Same.l0]
    rw [if_neg (by omega)]
  | succ d ih =>
    intro j k hj hk
    obtain ⟨k, rfl⟩ : ∃ m, k = m + 1 := ⟨k - 1, by omega⟩
    simp only [spigotref04_Same.l0]
    rw [if_pos (by omega), if_pos (by omega), if_pos (by omega), if_neg (by simp), wj (by omega)]
    exact ih (j + 1) k (by omega) (by omega)
theorem same_self (l : List S37) (hn : l.length ≤ 1000000) (k : Nat) (hk : l.length + 1 ≤ k) : spigotref04_Same.f k l l = some true := by
  unfold spigotref04_Same.f
  rw [if_pos rfl]
  exact same_loop l l hn rfl l.length 0 k (by omega) hk
theorem sameb_loop (l : List Bool) (hn : l.length ≤ 1000000) : ∀ (d j k : Nat), j + d = l.length → d + 1 ≤ k → spigotref04_SameBools.l0 k l l (j : Int) = some true := by
  intro d
  induction d with
  | zero =>
    intro j k hj hk
    obtain ⟨k, rfl⟩ : ∃ m, k = m + 1 := ⟨k - 1, by omega⟩
    simp only [spigotref04_SameBools.l0]
    rw [if_neg (by omega)]
  | succ d ih =>
    intro j k hj hk
    obtain ⟨k, rfl⟩ : ∃ m, k = m + 1 := ⟨k - 1, by omega⟩
    simp only [spigotref04_SameBools.l0]
    rw [if_pos (by omega), if_pos (by omega), if_pos (by omega), if_neg (by simp), wj (by omega)]
    exact ih (j + 1) k (by omega) (by omega)
theorem sameb_self (l : List Bool) (hn : l.length ≤ 1000000) (k : Nat) (hk : l.length + 1 ≤ k) : spigotref04_SameBools.f k l l = some true := by
  unfold spigotref04_SameBools.f
  rw [if_pos rfl]
  exact sameb_loop l hn l.length 0 k (by omega) hk
/-! #### waits -/
theorem Take_row {l : List S37} {t c : Int} (hv : lV l) (ht : U64 t) (h0 : 0 ≤ c) (k : Nat) (hk : 60 ≤ k) : levels_Take.f k l t c = some ((lTake l t c).1, (lTake l t c).2, 0) := by
  unfold levels_Take.f
  rw [check_ok hv [c] (by simp) k (by simp; omega) (by simpa using h0)]
  simp only [Option.bind_some, ↓reduceIte]
  rw [take_row ht h0 (by have := hv.1; omega) hv.2 k (by have := hv.1; omega)]
  rfl
theorem lTake_valid {l : List S37} {t c : Int} (hv : lV l) (ht : U64 t) (h0 : 0 ≤ c) : lV (lTake l t c).1 ∧ (lTake l t c).1.length = l.length := by
  obtain ⟨h1, h2⟩ := hv
  have hm := map_valid ht h2
  unfold lTake
  by_cases g : lHolds (l.map (bfill t)) c = true
  · rw [if_pos g]
    refine ⟨⟨by simpa using h1, ?_⟩, by simp⟩
    intro x hx
    obtain ⟨y, hy, rfl⟩ := List.mem_map.1 hx
    exact bsub_valid (hm y hy) h0 (lHolds_iff.1 g y hy)
  · rw [if_neg g]
    exact ⟨⟨by simpa using h1, hm⟩, by simp⟩
def lRun : List Int → List Int → List S37 → List S37 × List Bool
  | t :: ts, c :: cs, l => ((lRun ts cs (lTake l t c).1).1, (lTake l t c).2 :: (lRun ts cs (lTake l t c).1).2)
  | _, _, l => (l, [])
theorem lRun_nil (cs : List Int) (l : List S37) : lRun [] cs l = (l, []) := by cases cs <;> rfl
theorem lRun_len : ∀ (ts cs : List Int) (l : List S37), ts.length = cs.length → (lRun ts cs l).2.length = ts.length := by
  intro ts
  induction ts with
  | nil => intro cs l _; rw [lRun_nil]; rfl
  | cons t ts ih =>
    intro cs l h
    cases cs with
    | nil => simp at h
    | cons c cs => simp only [lRun, List.length_cons]; rw [ih cs _ (by simpa using h)]
theorem lRun_valid : ∀ (ts cs : List Int) (l : List S37), (∀ y ∈ ts, U64 y) → (∀ y ∈ cs, 0 ≤ y) → lV l → lV (lRun ts cs l).1 ∧ (lRun ts cs l).1.length = l.length := by
  intro ts
  induction ts with
  | nil => intro cs l _ _ hv; rw [lRun_nil]; exact ⟨hv, rfl⟩
  | cons t ts ih =>
    intro cs l ht hc hv
    cases cs with
    | nil => exact ⟨hv, rfl⟩
    | cons c cs =>
      obtain ⟨h1, h2⟩ := lTake_valid (t := t) (c := c) hv (ht t List.mem_cons_self) (hc c List.mem_cons_self)
      obtain ⟨h3, h4⟩ := ih cs _ (fun y hy => ht y (List.mem_cons_of_mem _ hy)) (fun y hy => hc y (List.mem_cons_of_mem _ hy)) h1
      exact ⟨h3, by simp only [lRun]; omega⟩
theorem run_loop (ts cs : List Int) (ht : ∀ y ∈ ts, U64 y) (hc : ∀ y ∈ cs, 0 ≤ y) (hi : ∀ y ∈ cs, I64 y) (hn : ts.length ≤ 200) (hl : cs.length = ts.length) : ∀ (d j k : Nat) (now : List S37) (adm : List Bool), j + d = ts.length → d + 40 ≤ k → lV now → adm.length + d ≤ 300 →
    levels_Run.l0 k cs now adm ts (ts.length : Int) (j : Int) = some ((lRun (ts.drop j) (cs.drop j) now).1, adm ++ (lRun (ts.drop j) (cs.drop j) now).2, 0) := by
  intro d
  induction d with
  | zero =>
    intro j k now adm hj hk hv ha
    obtain ⟨k, rfl⟩ : ∃ m, k = m + 1 := ⟨k - 1, by omega⟩
    simp only [levels_Run.l0]
    rw [if_neg (by omega), List.drop_eq_nil_of_le (show ts.length ≤ j by omega), lRun_nil, List.append_nil]
  | succ d ih =>
    intro j k now adm hj hk hv ha
    obtain ⟨k, rfl⟩ : ∃ m, k = m + 1 := ⟨k - 1, by omega⟩
    have h1 : j < ts.length := by omega
    have h2 : j < cs.length := by omega
    have t1 := ht _ (List.getElem_mem h1)
    have c1 := hc _ (List.getElem_mem h2)
    have n8 := hv.1
    obtain ⟨v1, v2⟩ := lTake_valid (t := ts[j]) (c := cs[j]) hv t1 c1
    simp only [levels_Run.l0]
    rw [if_pos (by omega), if_pos (by omega), if_pos (by omega), if_pos (by omega), rd_at h1, rd_at h2, take_row t1 c1 (by omega) hv.2 k (by omega)]
    simp only [Option.bind_some]
    rw [if_pos (by omega), wj (by omega), ih (j + 1) k _ _ (by omega) (by omega) v1 (by simp; omega), drop_cons h1, drop_cons h2]
    simp [lRun]
theorem costs_loop (ts cs : List Int) (hn : cs.length ≤ 9223372036854775807) : ∀ (d j k : Nat), j + d = cs.length → d + 1 ≤ k → ∃ b, spigotref04_Costs.l0 k ts cs (j : Int) = some b ∧ (b = true ↔ cs.length = ts.length ∧ ∀ c ∈ cs.drop j, 0 ≤ c) := by
  intro d
  induction d with
  | zero =>
    intro j k hj hk
    obtain ⟨k, rfl⟩ : ∃ m, k = m + 1 := ⟨k - 1, by omega⟩
    simp only [spigotref04_Costs.l0]
    rw [if_neg (by omega), List.drop_eq_nil_of_le (by omega)]
    refine ⟨_, rfl, ?_⟩
    rw [beq_iff_eq]
    exact ⟨fun h => ⟨by omega, fun c hc => by cases hc⟩, fun h => by omega⟩
  | succ d ih =>
    intro j k hj hk
    obtain ⟨k, rfl⟩ : ∃ m, k = m + 1 := ⟨k - 1, by omega⟩
    have h2 : j < cs.length := by omega
    simp only [spigotref04_Costs.l0]
    rw [if_pos (by omega), if_pos (by omega), rd_at h2, drop_cons h2]
    by_cases c : cs[j] < 0
    · rw [if_pos c]
      exact ⟨false, rfl, ⟨fun h => (by cases h), fun h => (by have := h.2 _ List.mem_cons_self; omega)⟩⟩
    · rw [if_neg c, wj (by omega)]
      obtain ⟨b, e, h⟩ := ih (j + 1) k (by omega) (by omega)
      refine ⟨b, e, h.trans ?_⟩
      rw [List.forall_mem_cons]
      exact ⟨fun g => ⟨g.1, by omega, g.2⟩, fun g => ⟨g.1, g.2.2⟩⟩
theorem costs_row (ts cs : List Int) (hn : cs.length ≤ 9223372036854775807) (k : Nat) (hk : cs.length + 1 ≤ k) : ∃ b, spigotref04_Costs.f k ts cs = some b ∧ (b = true ↔ cs.length = ts.length ∧ ∀ c ∈ cs, 0 ≤ c) := by
  have e := costs_loop ts cs hn cs.length 0 k (by omega) hk
  rw [List.drop_zero] at e
  exact e
theorem lV_nil : lV ([] : List S37) := ⟨by simp, fun x hx => by cases hx⟩
/-- A run of a valid row, with as many costs, none less than 0, as ticks. -/
theorem Run_row {l : List S37} {ts cs : List Int} (hv : lV l) (ht : ∀ y ∈ ts, U64 y) (hc : ∀ y ∈ cs, 0 ≤ y) (hi : ∀ y ∈ cs, I64 y) (hn : ts.length ≤ 200) (hl : cs.length = ts.length) (k : Nat) (hk : 600 ≤ k) :
    levels_Run.f k l ts cs = some ((lRun ts cs l).1, (lRun ts cs l).2, 0) := by
  unfold levels_Run.f
  rw [check_ok hv [] (by simp) k (by simp; omega) (by simp)]
  simp only [Option.bind_some, ↓reduceIte]
  rw [if_neg (by omega), check_ok lV_nil cs (by omega) k (by omega) hc]
  simp only [Option.bind_some, ↓reduceIte]
  obtain ⟨k, rfl⟩ : ∃ m, k = m + 1 := ⟨k - 1, by omega⟩
  simp only [levels_Run.j0]
  rw [if_neg (by simp; omega), clone_ok (by have := hv.1; omega)]
  simp only [Option.bind_some]
  have e := run_loop ts cs ht hc hi hn hl ts.length 0 k l [] (by omega) (by omega) hv (by simp; omega)
  rw [List.drop_zero, List.drop_zero, List.nil_append] at e
  exact e
set_option maxRecDepth 100000 in
theorem alive04p_ : spigotlaw04_alive.f 100 = some true := by kernel_rfl
theorem alive04p (k : Nat) (hk : 100 ≤ k) : spigotlaw04_alive.f k = some true := up_ (fun k => spigotlaw04_alive.mono k) alive04p_ k hk
theorem fit04p {l : List S37} (hr : ∀ x ∈ l, bR x) (k : Nat) (hk : 12 ≤ k) : ∃ b, spigotlaw04_fit.f k l = some b ∧ (b = true → lV l) := by
  unfold spigotlaw04_fit.f spigotref04_Great.f
  simp only [Option.bind_some]
  by_cases gr : (l.length : Int) > 20
  · rw [if_pos (decide_eq_true gr)]
    exact ⟨false, rfl, fun h => by cases h⟩
  · rw [if_neg (by simpa using gr)]
    rcases check_cases l hr with hv | ⟨e, e0, he⟩
    · rw [rcheck_ok hv k hk]
      exact ⟨_, rfl, fun _ => hv⟩
    · rw [(he k [] (by simp) (by simp; omega)).2]
      exact ⟨_, rfl, fun h => absurd (beq_iff_eq.1 h) e0⟩
theorem lRun_parts : ∀ (n : Nat) (ts cs : List Int) (l : List S37), ts.length = cs.length →
    lRun ts cs l = ((lRun (ts.drop n) (cs.drop n) (lRun (ts.take n) (cs.take n) l).1).1, (lRun (ts.take n) (cs.take n) l).2 ++ (lRun (ts.drop n) (cs.drop n) (lRun (ts.take n) (cs.take n) l).1).2) := by
  intro n
  induction n with
  | zero => intro ts cs l h; rw [List.take_zero, List.take_zero, lRun_nil]; rfl
  | succ n ih =>
    intro ts cs l h
    cases ts with
    | nil => rw [List.take_nil, List.drop_nil, lRun_nil, lRun_nil, lRun_nil]; rfl
    | cons t ts =>
      cases cs with
      | nil => simp at h
      | cons c cs =>
        simp only [List.take_succ_cons, List.drop_succ_cons, lRun]
        rw [ih ts cs (lTake l t c).1 (by simpa using h)]
        rfl
theorem parts_loop (ts cs : List Int) (ht : ∀ y ∈ ts, U64 y) (hc : ∀ y ∈ cs, 0 ≤ y) (hn : ts.length ≤ 200) (hl : cs.length = ts.length) (a : List S37) (b : List Bool) (hb : b.length = ts.length) (ha : a.length ≤ 8) : ∀ (d j k : Nat) (now : List S37), j + d = ts.length → d + 110 ≤ k → lV now →
    lRun (ts.drop j) (cs.drop j) now = (a, b.drop j) → spigotlaw04_LevelsParts.l0 k ts cs a b now (j : Int) = some true := by
  intro d
  induction d with
  | zero =>
    intro j k now hj hk hv e
    obtain ⟨k, rfl⟩ : ∃ m, k = m + 1 := ⟨k - 1, by omega⟩
    rw [List.drop_eq_nil_of_le (show ts.length ≤ j by omega), lRun_nil] at e
    have en : now = a := (Prod.mk.inj e).1
    subst en
    simp only [spigotlaw04_LevelsParts.l0]
    rw [if_neg (by omega), same_self now (by omega) k (by omega)]
    simp only [Option.bind_some, ↓reduceIte]
    rw [alive04p k (by omega)]
    rfl
  | succ d ih =>
    intro j k now hj hk hv e
    obtain ⟨k, rfl⟩ : ∃ m, k = m + 1 := ⟨k - 1, by omega⟩
    have h1 : j < ts.length := by omega
    have h2 : j < cs.length := by omega
    have h3 : j < b.length := by omega
    have t1 := ht _ (List.getElem_mem h1)
    have c1 := hc _ (List.getElem_mem h2)
    obtain ⟨v1, v2⟩ := lTake_valid (t := ts[j]) (c := cs[j]) hv t1 c1
    rw [drop_cons h1, drop_cons h2, drop_cons h3] at e
    simp only [lRun] at e
    obtain ⟨e1, e2⟩ := Prod.mk.inj e
    obtain ⟨e3, e4⟩ := List.cons.inj e2
    simp only [spigotlaw04_LevelsParts.l0]
    rw [if_pos (by omega), if_pos (by omega), if_pos (by omega), rd_at h1, rd_at h2, Take_row hv t1 c1 k (by omega)]
    simp only [Option.bind_some, ↓reduceIte]
    rw [if_pos (by omega), rdOf_at _ h3, e3, if_neg (by simp), wj (by omega)]
    refine ih (j + 1) k _ (by omega) (by omega) v1 ?_
    rw [← e1, ← e4]
theorem LevelsParts_pure (l : List S37) (ts cs : List Int) (at_ : Int) (_ : l.length ≤ maxLen) (hr : ∀ x ∈ l, bR x) (_ : ts.length ≤ maxLen) (ht : ∀ y ∈ ts, U64 y) (hm : cs.length ≤ maxLen) (hi : ∀ y ∈ cs, I64 y) (_ : I64 at_) : ∃ k, spigotlaw04_LevelsParts.f k l ts cs at_ = some true := by
  refine ⟨cs.length + 901, ?_⟩
  have fin : spigotlaw04_LevelsParts.j0 (cs.length + 901) l ts cs at_ true = some true := by
    simp only [spigotlaw04_LevelsParts.j0, ↓reduceIte]
    rw [alive04p _ (by omega)]
    rfl
  unfold spigotlaw04_LevelsParts.f
  obtain ⟨b, e, hb⟩ := fit04p hr (cs.length + 901) (by omega)
  rw [e]
  simp only [Option.bind_some]
  by_cases c0 : b = true
  · rw [if_pos c0]
    have hv := hb c0
    have h8 := hv.1
    by_cases c30 : (ts.length : Int) > 30
    · rw [if_pos c30]
      exact fin
    · rw [if_neg c30]
      obtain ⟨q, eq, hq⟩ := costs_row ts cs (by unfold maxLen at hm; omega) (cs.length + 901) (by omega)
      rw [eq]
      simp only [Option.bind_some]
      by_cases cq : q = true
      · rw [if_pos cq]
        obtain ⟨hl, hc⟩ := hq.1 cq
        by_cases a0 : at_ < 0
        · rw [if_pos a0]
          exact fin
        · rw [if_neg a0]
          by_cases a1 : at_ > (ts.length : Int)
          · rw [decide_eq_true a1]
            exact fin
          · rw [decide_eq_false a1]
            obtain ⟨n, rfl⟩ : ∃ n : Nat, at_ = (n : Int) := ⟨at_.toNat, by omega⟩
            have tT : ∀ y ∈ ts.take n, U64 y := fun y hy => ht y (List.mem_of_mem_take hy)
            have tC : ∀ y ∈ cs.take n, 0 ≤ y := fun y hy => hc y (List.mem_of_mem_take hy)
            have tI : ∀ y ∈ cs.take n, I64 y := fun y hy => hi y (List.mem_of_mem_take hy)
            have dT : ∀ y ∈ ts.drop n, U64 y := fun y hy => ht y (List.mem_of_mem_drop hy)
            have dC : ∀ y ∈ cs.drop n, 0 ≤ y := fun y hy => hc y (List.mem_of_mem_drop hy)
            have dI : ∀ y ∈ cs.drop n, I64 y := fun y hy => hi y (List.mem_of_mem_drop hy)
            obtain ⟨v1, v2⟩ := lRun_valid ts cs l ht hc hv
            obtain ⟨w1, w2⟩ := lRun_valid (ts.take n) (cs.take n) l tT tC hv
            have lt1 : (cs.take n).length = (ts.take n).length := by rw [List.length_take, List.length_take, hl]
            have ld1 : (cs.drop n).length = (ts.drop n).length := by rw [List.length_drop, List.length_drop, hl]
            have tl : (ts.take n).length ≤ 30 := by rw [List.length_take]; omega
            have dl : (ts.drop n).length ≤ 30 := by rw [List.length_drop]; omega
            have L0 := lRun_len ts cs l hl.symm
            have L1 := lRun_len (ts.take n) (cs.take n) l lt1.symm
            have L2 := lRun_len (ts.drop n) (cs.drop n) (lRun (ts.take n) (cs.take n) l).1 ld1.symm
            have pp := lRun_parts n ts cs l hl.symm
            simp only [spigotlaw04_LevelsParts.j0]
            rw [if_neg (by decide), Run_row hv ht hc hi (by omega) hl (cs.length + 900) (by omega)]
            simp only [Option.bind_some, Int.toNat_natCast]
            rw [if_pos (by omega), if_pos (by omega), if_pos (by omega), Run_row hv tT tC tI (by omega) lt1 (cs.length + 900) (by omega)]
            simp only [Option.bind_some]
            rw [Run_row w1 dT dC dI (by omega) ld1 (cs.length + 900) (by omega)]
            simp only [Option.bind_some, ↓reduceIte, List.length_nil, List.nil_append]
            have e1 : (lRun (ts.drop n) (cs.drop n) (lRun (ts.take n) (cs.take n) l).1).1 = (lRun ts cs l).1 := by rw [pp]
            have e2 : (lRun (ts.take n) (cs.take n) l).2 ++ (lRun (ts.drop n) (cs.drop n) (lRun (ts.take n) (cs.take n) l).1).2 = (lRun ts cs l).2 := by rw [pp]
            rw [e1, e2, same_self _ (by have := v1.1; omega) (cs.length + 900) (by have := v1.1; omega)]
            simp only [Option.bind_some, ↓reduceIte]
            rw [if_pos (by omega), if_pos (by omega), sameb_self _ (by omega) (cs.length + 900) (by omega)]
            simp only [Option.bind_some, ↓reduceIte]
            rw [if_pos (by omega)]
            exact parts_loop ts cs ht hc (by omega) hl _ _ L0 v1.1 ts.length 0 (cs.length + 900) l (by omega) (by omega) hv (by rw [List.drop_zero, List.drop_zero, List.drop_zero])
      · rw [if_neg cq]
        exact fin
  · rw [if_neg c0]
    exact fin
end Go.Proofs.Ytaegpnbgppjicaa.X
