/- plain facts on whole numbers: products, quotients, powers of 2, wrapping. -/
import Derived.Test.YtbfdpodlnijeoaaX0
namespace Go.Proofs.Ytbfdpodlnijeoaa.X
open Go.RowKit Go.Proofs.YtbfdpodlnijeoaaW.PrintWords Go.Proofs.YtbfdpodlnijeoaaW.PrintLast Go.Proofs.YtbfdpodlnijeoaaW.PrintMore
set_option linter.unusedVariables false
set_option linter.unusedSimpArgs false

theorem wrap_u64 (n : Int) : IntKind.u64.wrap n = n % 18446744073709551616 := by simp [IntKind.wrap, IntKind.bits, IntKind.signed]
theorem wrap_u32 (n : Int) : IntKind.u32.wrap n = n % 4294967296 := by simp [IntKind.wrap, IntKind.bits, IntKind.signed]
def U64 (x : Int) : Prop := 0 ≤ x ∧ x < 18446744073709551616
def I64 (x : Int) : Prop := -9223372036854775808 ≤ x ∧ x < 9223372036854775808
def U32 (x : Int) : Prop := 0 ≤ x ∧ x < 4294967296
def U8 (x : Int) : Prop := 0 ≤ x ∧ x < 256
theorem wrap_id {x : Int} (h : U64 x) : IntKind.u64.wrap x = x := by rw [wrap_u64]; obtain ⟨_, _⟩ := h; omega
theorem wf_u64 {x : Int} (h : (Lit.int .u64 x).wf = true) : U64 x := by simp [Lit.wf, IntKind.min, IntKind.max, IntKind.bits, IntKind.signed] at h; exact ⟨by omega, by omega⟩
theorem wf_i64 {x : Int} (h : (Lit.int .i64 x).wf = true) : I64 x := by simp [Lit.wf, IntKind.min, IntKind.max, IntKind.bits, IntKind.signed] at h; exact ⟨by omega, by omega⟩
theorem wf_u32 {x : Int} (h : (Lit.int .u32 x).wf = true) : U32 x := by simp [Lit.wf, IntKind.min, IntKind.max, IntKind.bits, IntKind.signed] at h; exact ⟨by omega, by omega⟩
theorem wf_u8 {x : Int} (h : (Lit.int .u8 x).wf = true) : U8 x := by simp [Lit.wf, IntKind.min, IntKind.max, IntKind.bits, IntKind.signed] at h; exact ⟨by omega, by omega⟩

theorem wrap64_id {x : Int} (h0 : -9223372036854775808 ≤ x) (h1 : x < 9223372036854775808) : wrap64 x = x := by unfold wrap64; omega
theorem mul_bd {a b A B : Int} (h0 : 0 ≤ a) (h1 : a ≤ A) (h2 : 0 ≤ b) (h3 : b ≤ B) : 0 ≤ a * b ∧ a * b ≤ A * B :=
  ⟨Int.mul_nonneg h0 h2, Int.mul_le_mul h1 h3 h2 (by omega)⟩
/-- The quotient and the rest are the only numbers of their kind. -/
theorem div_uniq {n y q : Int} (h1 : q * y ≤ n) (h2 : n < q * y + y) : n / y = q ∧ n % y = n - q * y := by
  have hy : 0 < y := by omega
  have h := (Int.ediv_emod_unique (a := n) (q := q) (r := n - q * y) hy).2 ⟨by rw [Int.mul_comm y q]; omega, by omega, by omega⟩
  exact h
theorem div_bd {n y : Int} (hy : 0 < y) : n / y * y ≤ n ∧ n < n / y * y + y := by
  have h1 := Int.emod_add_mul_ediv n y
  have h2 := Int.emod_nonneg n (by omega : y ≠ 0)
  have h3 := Int.emod_lt_of_pos n hy
  rw [Int.mul_comm] at h1
  omega
theorem div_rest {n y : Int} (hy : 0 < y) : n / y * y + n % y = n ∧ 0 ≤ n % y ∧ n % y < y := by
  have h1 := Int.emod_add_mul_ediv n y
  have h2 := Int.emod_nonneg n (by omega : y ≠ 0)
  have h3 := Int.emod_lt_of_pos n hy
  rw [Int.mul_comm] at h1
  omega
theorem div_nonneg {n y : Int} (hn : 0 ≤ n) (hy : 0 < y) : 0 ≤ n / y := Int.ediv_nonneg hn (by omega)
theorem div_lt {n y b : Int} (hy : 0 < y) (h : n < b * y) : n / y < b := Int.ediv_lt_of_lt_mul hy h
theorem div_le {n y : Int} (hn : 0 ≤ n) (hy : 0 < y) : n / y ≤ n := Int.ediv_le_self y hn
theorem le_div {n y b : Int} (hy : 0 < y) (h : b * y ≤ n) : b ≤ n / y := Int.le_ediv_of_mul_le hy h
theorem div_mono {a b y : Int} (hy : 0 < y) (h : a ≤ b) : a / y ≤ b / y := Int.ediv_le_ediv hy h
/-- A quotient of scaled numbers. -/
theorem div_scale {n y p : Int} (hp : 0 < p) (hy : 0 < y) : n * p / (y * p) = n / y ∧ n * p % (y * p) = n % y * p := by
  obtain ⟨h1, h2⟩ := div_bd (n := n) hy
  have e : n / y * (y * p) = n / y * y * p := by rw [Int.mul_assoc]
  have h3 : n / y * y * p ≤ n * p := Int.mul_le_mul_of_nonneg_right h1 (by omega)
  have h4 : n * p < (n / y * y + y) * p := Int.mul_lt_mul_of_pos_right h2 hp
  rw [Int.add_mul] at h4
  obtain ⟨a, b⟩ := div_uniq (n := n * p) (y := y * p) (q := n / y) (by rw [e]; exact h3) (by rw [e]; exact h4)
  refine ⟨a, ?_⟩
  rw [b, e, ← Int.sub_mul]
  have := (div_rest (n := n) hy).1
  congr 1
  omega
theorem two_pow_pos (s : Nat) : (0 : Int) < 2 ^ s := Int.pow_pos (by decide)
theorem two_pow_split (s t n : Nat) (h : s + t = n) : (2 : Int) ^ s * 2 ^ t = 2 ^ n := by rw [← h, Int.pow_add]
theorem two_pow_le {s t : Nat} (h : s ≤ t) : (2 : Int) ^ s ≤ 2 ^ t := by
  have := Nat.pow_le_pow_right (n := 2) (by decide) h
  exact_mod_cast this
theorem tdiv_nonneg_eq {a b : Int} (h : 0 ≤ a) : Int.tdiv a b = a / b := Int.tdiv_eq_ediv_of_nonneg h
theorem tmod_nonneg_eq {a b : Int} (h : 0 ≤ a) : Int.tmod a b = a % b := Int.tmod_eq_emod_of_nonneg h

/-- More rounds tell the same. -/
theorem up_ {α : Type} {g : Nat → Option α} (hm : ∀ k, LeO (g k) (g (k + 1))) {k0 : Nat} {r : α} (h : g k0 = some r) : ∀ k, k0 ≤ k → g k = some r := by
  intro k hk
  induction k with
  | zero =>
    obtain rfl : k0 = 0 := by omega
    exact h
  | succ k ih =>
    by_cases c : k0 = k + 1
    · rw [← c]; exact h
    · exact hm k r (ih (by omega))
end Go.Proofs.Ytbfdpodlnijeoaa.X
