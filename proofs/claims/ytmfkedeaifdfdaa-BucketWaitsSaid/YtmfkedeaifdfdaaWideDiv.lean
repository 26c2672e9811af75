/- products and quotients of the package wide, and of its reference, over whole numbers. -/
import Derived.Test.YtmfkedeaifdfdaaX4
import Derived.Test.YtmfkedeaifdfdaaX5
import Derived.Test.YtmfkedeaifdfdaaX7
import Derived.Test.YtmfkedeaifdfdaaX9
import Derived.Test.YtmfkedeaifdfdaaWide
namespace Go.Proofs.Ytmfkedeaifdfdaa.X
open Go.RowKit Go.Proofs.YtmfkedeaifdfdaaW.PrintWords Go.Proofs.YtmfkedeaifdfdaaW.PrintLast Go.Proofs.YtmfkedeaifdfdaaW.PrintMore
set_option linter.unusedVariables false
set_option linter.unusedSimpArgs false

theorem and_mask {x : Int} (h0 : 0 ≤ x) (h1 : x < 18446744073709551616) : Go.bits .and .u64 x 4294967295 = x % 4294967296 :=
  bits_mask .u64 64 (by decide) (fun n a b => wrap_id ⟨a, b⟩) 32 (by decide) x h0 h1
theorem and_one {x : Int} (h0 : 0 ≤ x) (h1 : x < 18446744073709551616) : Go.bits .and .u64 x 1 = x % 2 :=
  bits_mask .u64 64 (by decide) (fun n a b => wrap_id ⟨a, b⟩) 1 (by decide) x h0 h1
theorem mul_parts (x y : Int) : x * y = (x / 4294967296) * (y / 4294967296) * 18446744073709551616 + ((x / 4294967296) * (y % 4294967296) + (x % 4294967296) * (y / 4294967296)) * 4294967296 + (x % 4294967296) * (y % 4294967296) := by
  have hx : x = x / 4294967296 * 4294967296 + x % 4294967296 := by omega
  have hy : y = y / 4294967296 * 4294967296 + y % 4294967296 := by omega
  generalize x / 4294967296 = x1 at *
  generalize x % 4294967296 = x0 at *
  generalize y / 4294967296 = y1 at *
  generalize y % 4294967296 = y0 at *
  subst hx; subst hy
  rw [Int.add_mul, Int.mul_add, Int.mul_add]
  have e1 : x1 * 4294967296 * (y1 * 4294967296) = x1 * y1 * 18446744073709551616 := by
    rw [Int.mul_assoc, Int.mul_comm 4294967296 (y1 * 4294967296), Int.mul_assoc y1, ← Int.mul_assoc]; rfl
  have e2 : x1 * 4294967296 * y0 = x1 * y0 * 4294967296 := by rw [Int.mul_assoc, Int.mul_comm 4294967296, ← Int.mul_assoc]
  have e3 : x0 * (y1 * 4294967296) = x0 * y1 * 4294967296 := by rw [Int.mul_assoc]
  rw [e1, e2, e3]
  omega
section
variable {x y : Int}
theorem parts_bd (hx : U64 x) (hy : U64 y) :
    (0 ≤ (x / 4294967296) * (y / 4294967296) ∧ (x / 4294967296) * (y / 4294967296) ≤ 18446744065119617025) ∧ (0 ≤ (x / 4294967296) * (y % 4294967296) ∧ (x / 4294967296) * (y % 4294967296) ≤ 18446744065119617025) ∧
    (0 ≤ (x % 4294967296) * (y / 4294967296) ∧ (x % 4294967296) * (y / 4294967296) ≤ 18446744065119617025) ∧ (0 ≤ (x % 4294967296) * (y % 4294967296) ∧ (x % 4294967296) * (y % 4294967296) ≤ 18446744065119617025) := by
  obtain ⟨_, _⟩ := hx; obtain ⟨_, _⟩ := hy
  have b : ∀ a b : Int, 0 ≤ a → a ≤ 4294967295 → 0 ≤ b → b ≤ 4294967295 → 0 ≤ a * b ∧ a * b ≤ 18446744065119617025 := fun a b h0 h1 h2 h3 => mul_bd h0 h1 h2 h3
  exact ⟨b _ _ (by omega) (by omega) (by omega) (by omega), b _ _ (by omega) (by omega) (by omega) (by omega), b _ _ (by omega) (by omega) (by omega) (by omega), b _ _ (by omega) (by omega) (by omega) (by omega)⟩
theorem mul_U64_bd (hx : U64 x) (hy : U64 y) : 0 ≤ x * y ∧ x * y ≤ 340282366920938463426481119284349108225 := by
  obtain ⟨_, _⟩ := hx; obtain ⟨_, _⟩ := hy
  exact mul_bd (by assumption) (by omega : x ≤ 18446744073709551615) (by assumption) (by omega : y ≤ 18446744073709551615)
theorem bits_Mul64_ok (hx : U64 x) (hy : U64 y) : bits_Mul64.f x y = some (x * y / 18446744073709551616, x * y % 18446744073709551616) := by
  obtain ⟨⟨a1, a2⟩, ⟨b1, b2⟩, ⟨c1, c2⟩, ⟨d1, d2⟩⟩ := parts_bd hx hy
  have e := mul_parts x y
  obtain ⟨hx0, hx1⟩ := hx; obtain ⟨hy0, hy1⟩ := hy
  unfold bits_Mul64.f
  rw [and_mask hx0 hx1, and_mask hy0 hy1, wrap_u64 (x * y)]
  generalize x / 4294967296 * (y / 4294967296) = p11 at *
  generalize x / 4294967296 * (y % 4294967296) = p10 at *
  generalize x % 4294967296 * (y / 4294967296) = p01 at *
  generalize x % 4294967296 * (y % 4294967296) = p00 at *
  generalize x * y = n at *
  rw [wrap_id (x := p11) ⟨by omega, by omega⟩, wrap_id (x := p10) ⟨by omega, by omega⟩, wrap_id (x := p00) ⟨by omega, by omega⟩, wrap_id (x := p01) ⟨by omega, by omega⟩,
    wrap_id (x := p10 + p00 / 4294967296) ⟨by omega, by omega⟩, and_mask (by omega) (by omega), wrap_id (x := (p10 + p00 / 4294967296) % 4294967296 + p01) ⟨by omega, by omega⟩,
    wrap_id (x := p11 + (p10 + p00 / 4294967296) / 4294967296) ⟨by omega, by omega⟩, wrap_id ⟨by omega, by omega⟩]
  congr 2
  omega
theorem wide_Mul_ok (hx : U64 x) (hy : U64 y) : wide_Mul.f x y = some (x * y / 18446744073709551616, x * y % 18446744073709551616) := by
  unfold wide_Mul.f
  rw [bits_Mul64_ok hx hy]
  rfl
theorem ref_Mul_ok (hx : U64 x) (hy : U64 y) : spigotref01_Mul.f x y = some (x * y / 18446744073709551616, x * y % 18446744073709551616) := by
  obtain ⟨⟨a1, a2⟩, ⟨b1, b2⟩, ⟨c1, c2⟩, ⟨d1, d2⟩⟩ := parts_bd hx hy
  have e := mul_parts x y
  obtain ⟨hx0, hx1⟩ := hx; obtain ⟨hy0, hy1⟩ := hy
  unfold spigotref01_Mul.f
  rw [tdiv_nonneg_eq hx0, tdiv_nonneg_eq hy0, tmod_nonneg_eq hx0, tmod_nonneg_eq hy0, wrap_id (x := x / 4294967296) ⟨by omega, by omega⟩, wrap_id (x := y / 4294967296) ⟨by omega, by omega⟩]
  generalize x / 4294967296 * (y / 4294967296) = p11 at *
  generalize x / 4294967296 * (y % 4294967296) = p10 at *
  generalize x % 4294967296 * (y / 4294967296) = p01 at *
  generalize x % 4294967296 * (y % 4294967296) = p00 at *
  generalize x * y = n at *
  rw [wrap_id (x := p11) ⟨by omega, by omega⟩, wrap_id (x := p10) ⟨by omega, by omega⟩, wrap_id (x := p00) ⟨by omega, by omega⟩, wrap_id (x := p01) ⟨by omega, by omega⟩,
    tdiv_nonneg_eq b1, tdiv_nonneg_eq c1, tdiv_nonneg_eq d1, tmod_nonneg_eq b1, tmod_nonneg_eq c1, tmod_nonneg_eq d1,
    wrap_id (x := p10 / 4294967296) ⟨by omega, by omega⟩, wrap_id (x := p01 / 4294967296) ⟨by omega, by omega⟩, wrap_id (x := p00 / 4294967296) ⟨by omega, by omega⟩,
    wrap_id (x := p00 / 4294967296 + p10 % 4294967296) ⟨by omega, by omega⟩, wrap_id (x := p00 / 4294967296 + p10 % 4294967296 + p01 % 4294967296) ⟨by omega, by omega⟩,
    tdiv_nonneg_eq (by omega : 0 ≤ p00 / 4294967296 + p10 % 4294967296 + p01 % 4294967296), tmod_nonneg_eq (by omega : 0 ≤ p00 / 4294967296 + p10 % 4294967296 + p01 % 4294967296),
    wrap_id (x := (p00 / 4294967296 + p10 % 4294967296 + p01 % 4294967296) / 4294967296) ⟨by omega, by omega⟩, wrap_id (x := p11 + p10 / 4294967296) ⟨by omega, by omega⟩, wrap_id (x := p11 + p10 / 4294967296 + p01 / 4294967296) ⟨by omega, by omega⟩,
    wrap_id (x := p11 + p10 / 4294967296 + p01 / 4294967296 + _) ⟨by omega, by omega⟩, wrap_id (x := (p00 / 4294967296 + p10 % 4294967296 + p01 % 4294967296) % 4294967296 * 4294967296) ⟨by omega, by omega⟩, wrap_id ⟨by omega, by omega⟩]
  congr 2 <;> omega
end
section
variable {a0 a1 d : Int}
theorem wide_Div_zero (k : Nat) : wide_Div.f k a0 a1 0 = some (0, 0, 0, 26) := by unfold wide_Div.f; rw [if_pos rfl]
theorem wide_Div_ok (k : Nat) (hk : 20 ≤ k) (h0 : U64 a0) (h1 : U64 a1) (hd : 0 < d) (hd1 : d < 18446744073709551616) :
    wide_Div.f k a0 a1 d = some (wv a0 a1 / d / 18446744073709551616, wv a0 a1 / d % 18446744073709551616, wv a0 a1 % d, 0) := by
  obtain ⟨r1, r2, r3⟩ := div_rest (n := a0) hd
  have l0 := div_nonneg h0.1 hd
  have l1 := div_le h0.1 hd
  unfold wide_Div.f
  rw [if_neg (by omega), Div64_ok k hk 0 a0 d (by omega) h0 hd1 hd]
  simp only [Option.bind_some, Int.zero_mul, Int.zero_add]
  rw [Div64_ok k hk (a0 % d) a1 d r2 h1 hd1 r3]
  simp only [Option.bind_some]
  obtain ⟨g1, g2⟩ := h1
  obtain ⟨s1, s2, s3⟩ := div_rest (n := a0 % d * 18446744073709551616 + a1) hd
  have q0 := div_nonneg (n := a0 % d * 18446744073709551616 + a1) (by omega) hd
  have q1 : (a0 % d * 18446744073709551616 + a1) / d < 18446744073709551616 := div_lt hd (by omega)
  generalize (a0 % d * 18446744073709551616 + a1) / d = Q at *
  generalize (a0 % d * 18446744073709551616 + a1) % d = R at *
  generalize a0 / d = P at *
  have e : (P * 18446744073709551616 + Q) * d = P * d * 18446744073709551616 + Q * d := by
    rw [Int.add_mul, Int.mul_assoc, Int.mul_comm 18446744073709551616 d, ← Int.mul_assoc]
  obtain ⟨z1, z2⟩ := div_uniq (n := wv a0 a1) (y := d) (q := P * 18446744073709551616 + Q) (by unfold wv; omega) (by unfold wv; omega)
  rw [z1, z2, e]
  unfold wv
  congr 2
  · omega
  · congr 2
    · omega
    · congr 1
      omega
/-- The raised quotient. -/
def cdiv (n d : Int) : Int := (n + d - 1) / d
theorem cdiv_eq {n d : Int} (hd : 0 < d) : cdiv n d = if n % d = 0 then n / d else n / d + 1 := by
  unfold cdiv
  obtain ⟨r1, r2, r3⟩ := div_rest (n := n) hd
  split
  · exact (div_uniq (by omega) (by omega)).1
  · have e : (n / d + 1) * d = n / d * d + d := by rw [Int.add_mul, Int.one_mul]
    exact (div_uniq (by omega) (by omega)).1
theorem quot_bd (h0 : U64 a0) (h1 : U64 a1) (hd : 0 < d) : 0 ≤ wv a0 a1 / d ∧ wv a0 a1 / d < 340282366920938463463374607431768211456 := by
  obtain ⟨b0, b1⟩ := wv_bd h0 h1
  have := div_le b0 hd
  exact ⟨div_nonneg b0 hd, by omega⟩
theorem quot_up_bd (h0 : U64 a0) (h1 : U64 a1) (hd : 0 < d) : 0 ≤ cdiv (wv a0 a1) d ∧ cdiv (wv a0 a1) d < 340282366920938463463374607431768211456 := by
  obtain ⟨b0, b1⟩ := wv_bd h0 h1
  obtain ⟨q0, q1⟩ := quot_bd h0 h1 hd
  obtain ⟨r1, r2, r3⟩ := div_rest (n := wv a0 a1) hd
  rw [cdiv_eq hd]
  split
  · exact ⟨q0, q1⟩
  · have h2 : wv a0 a1 / d * 2 ≤ wv a0 a1 / d * d := Int.mul_le_mul_of_nonneg_left (by omega) q0
    omega
theorem wide_Up_zero (k : Nat) : wide_Up.f (k + 1) a0 a1 0 = some (0, 0, 26) := by
  unfold wide_Up.f
  rw [wide_Div_zero]
  simp only [Option.bind_some, wide_Up.j0]
  rw [if_neg (by decide)]
  simp
theorem wide_Up_ok (k : Nat) (hk : 20 ≤ k) (h0 : U64 a0) (h1 : U64 a1) (hd : 0 < d) (hd1 : d < 18446744073709551616) :
    wide_Up.f k a0 a1 d = some (cdiv (wv a0 a1) d / 18446744073709551616, cdiv (wv a0 a1) d % 18446744073709551616, 0) := by
  obtain ⟨q0, q1⟩ := quot_bd h0 h1 hd
  obtain ⟨u0, u1⟩ := quot_up_bd h0 h1 hd
  unfold wide_Up.f
  rw [wide_Div_ok k hk h0 h1 hd hd1]
  obtain ⟨k, rfl⟩ : ∃ m, k = m + 1 := ⟨k - 1, by omega⟩
  simp only [Option.bind_some, wide_Up.j0, ↓reduceIte]
  rw [cdiv_eq hd] at u0 u1 ⊢
  by_cases c : wv a0 a1 % d = 0
  · rw [if_pos (by simp [c]), if_pos c]
  · rw [if_neg c] at u0 u1
    rw [if_neg (by simpa using c), if_neg c, wide_Of_ok]
    simp only [Option.bind_some]
    rw [wide_Add_ok (U64_hi q0 q1) U64_lo U64_zero ⟨by decide, by decide⟩ (by rw [wv_of, wv_zero]; omega), wv_of, wv_zero]
    rfl
end
end Go.Proofs.Ytmfkedeaifdfdaa.X
