/- the reference's division, bit by bit, over whole numbers. -/
import Derived.Test.YtmfkedeaifdfdaaX7
import Derived.Test.YtmfkedeaifdfdaaWideDiv
import Derived.Test.YtmfkedeaifdfdaaBits
namespace Go.Proofs.Ytmfkedeaifdfdaa.X
open Go.RowKit Go.Proofs.YtmfkedeaifdfdaaW.PrintWords Go.Proofs.YtmfkedeaifdfdaaW.PrintLast Go.Proofs.YtmfkedeaifdfdaaW.PrintMore
set_option linter.unusedVariables false
set_option linter.unusedSimpArgs false

theorem ref_Div_loop (h l d : Int) (h0 : U64 h) (h1 : U64 l) (hd : 0 < d) (hd1 : d < 18446744073709551616) :
    ∀ (i k : Nat), i ≤ 128 → 2 * i + 5 ≤ k →
      spigotref01_Div.l0 k d ((i : Int) - 1) h l (wv h l / 2 ^ i / d / 18446744073709551616) (wv h l / 2 ^ i / d % 18446744073709551616) 0 (wv h l / 2 ^ i % d) = some (wv h l / d / 18446744073709551616, wv h l / d % 18446744073709551616, wv h l % d, 0) := by
  obtain ⟨w0, w1⟩ := wv_bd h0 h1
  have hn : ∀ i : Nat, 0 ≤ wv h l / 2 ^ i ∧ wv h l / 2 ^ i < 340282366920938463463374607431768211456 := by
    intro i
    have := div_le w0 (two_pow_pos i)
    exact ⟨div_nonneg w0 (two_pow_pos i), by omega⟩
  intro i
  induction i with
  | zero =>
    intro k _ hk
    obtain ⟨k, rfl⟩ : ∃ m, k = m + 1 := ⟨k - 1, by omega⟩
    simp only [spigotref01_Div.l0]
    rw [if_neg (by omega)]
    simp
  | succ i ih =>
    intro k hi hk
    obtain ⟨k, rfl⟩ : ∃ m, k = m + 2 := ⟨k - 2, by omega⟩
    have ex : (((i + 1 : Nat) : Int) - 1) = (i : Int) := by omega
    rw [ex]
    obtain ⟨n0, n1⟩ := hn i
    obtain ⟨m0, m1⟩ := hn (i + 1)
    have hhalf := half (wv h l) i
    obtain ⟨r1, r2, r3⟩ := div_rest (n := wv h l / 2 ^ (i + 1)) hd
    have q0 := div_nonneg m0 hd
    have q1 := div_le m0 hd
    have st := digit_step (n := wv h l / 2 ^ (i + 1)) (n' := wv h l / 2 ^ i) (b := wv h l / 2 ^ i % 2) hd hhalf (by omega) (by omega)
    have key : ∀ b : Int, b = wv h l / 2 ^ i % 2 → spigotref01_Div.j1 (k + 1) d (i : Int) b h l (wv h l / 2 ^ (i + 1) / d / 18446744073709551616) (wv h l / 2 ^ (i + 1) / d % 18446744073709551616) 0 (wv h l / 2 ^ (i + 1) % d) = some (wv h l / d / 18446744073709551616, wv h l / d % 18446744073709551616, wv h l % d, 0) := by
      intro b hb
      rw [← hb] at hhalf st
      have b0 : 0 ≤ b := by omega
      have b1 : b ≤ 1 := by omega
      have ih' := ih k (by omega) (by omega)
      simp only [spigotref01_Div.j1]
      generalize wv h l / 2 ^ i = n' at *
      generalize wv h l / 2 ^ (i + 1) = n at *
      generalize hR : n % d = R at *
      generalize hQ : n / d = Q at *
      have eh : IntKind.u64.wrap (IntKind.u64.wrap (0 * 2) + R / 9223372036854775808) = (2 * R + b) / 18446744073709551616 := by simp only [wrap_u64]; omega
      have el : IntKind.u64.wrap (IntKind.u64.wrap (R * 2) + b) = (2 * R + b) % 18446744073709551616 := by simp only [wrap_u64]; omega
      rw [eh, el]
      obtain ⟨k, rfl⟩ : ∃ m, k = m + 1 := ⟨k - 1, by omega⟩
      rw [ref_Cmp_ok k U64_lo ⟨by omega, hd1⟩, wv_of, wv_zero]
      simp only [Option.bind_some]
      rw [wrap64_id (x := (i : Int) - 1) (by omega) (by omega)]
      by_cases c : 2 * R + b ≥ d
      · obtain ⟨s1, s2⟩ := st.1 c
        rw [if_pos (wcmp_nonneg.2 c), ref_Less_ok (U64_hi (by omega) (by omega)) U64_lo U64_zero ⟨by omega, hd1⟩ (by rw [wv_of, wv_zero]; exact c), wv_of, wv_zero]
        simp only [Option.bind_some]
        rw [← ih', s1, s2]
        congr 1 <;> (try simp only [wrap_u64]) <;> omega
      · obtain ⟨s1, s2⟩ := st.2 (by omega)
        rw [if_neg (fun h => c (wcmp_nonneg.1 h)), ← ih', s1, s2]
        congr 1 <;> (try simp only [wrap_u64]) <;> omega
    simp only [spigotref01_Div.l0]
    rw [if_pos (by omega), if_pos (by omega)]
    by_cases c : (i : Int) > 63
    · rw [if_pos c, wrap64_id (x := (i : Int) - 64) (by omega) (by omega), if_pos (by omega), shr_ok _ _ (by omega) (by omega)]
      have hh := div_nonneg h0.1 (two_pow_pos ((i : Int) - 64).toNat)
      have hh1 := div_le h0.1 (two_pow_pos ((i : Int) - 64).toNat)
      have := h0.2
      rw [and_one hh (by omega)]
      refine key _ ?_
      have e := bit_hi h l ((i : Int) - 64).toNat h1.1 h1.2
      rw [show 64 + ((i : Int) - 64).toNat = i by omega] at e
      unfold wv
      rw [e]
    · rw [if_neg c, shr_ok _ _ (by omega) (by omega)]
      have hh := div_nonneg h1.1 (two_pow_pos (i : Int).toNat)
      have hh1 := div_le h1.1 (two_pow_pos (i : Int).toNat)
      have := h1.2
      rw [and_one hh (by omega)]
      refine key _ ?_
      have e := bit_lo h l i (by omega)
      unfold wv
      rw [e]
      rfl
section
variable {a0 a1 d : Int}
theorem ref_Div_zero (k : Nat) : spigotref01_Div.f k a0 a1 0 = some (0, 0, 0, 26) := by unfold spigotref01_Div.f; rw [if_pos rfl]
theorem ref_Div_ok (k : Nat) (hk : 300 ≤ k) (h0 : U64 a0) (h1 : U64 a1) (hd : 0 < d) (hd1 : d < 18446744073709551616) :
    spigotref01_Div.f k a0 a1 d = some (wv a0 a1 / d / 18446744073709551616, wv a0 a1 / d % 18446744073709551616, wv a0 a1 % d, 0) := by
  have e := ref_Div_loop a0 a1 d h0 h1 hd hd1 128 k (by omega) (by omega)
  obtain ⟨w0, w1⟩ := wv_bd h0 h1
  have z : wv a0 a1 / 2 ^ 128 = 0 := Int.ediv_eq_zero_of_lt w0 w1
  rw [z, Int.zero_ediv, Int.zero_emod] at e
  unfold spigotref01_Div.f
  rw [if_neg (by omega)]
  exact e
end
end Go.Proofs.Ytmfkedeaifdfdaa.X
