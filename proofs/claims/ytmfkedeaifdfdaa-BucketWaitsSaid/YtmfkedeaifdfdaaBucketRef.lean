/- the reference of buckets over whole numbers: it answers as the package does. -/
import Derived.Test.YtmfkedeaifdfdaaX4
import Derived.Test.YtmfkedeaifdfdaaX7
import Derived.Test.YtmfkedeaifdfdaaX8
import Derived.Test.YtmfkedeaifdfdaaBucket
import Derived.Test.YtmfkedeaifdfdaaRefDiv
namespace Go.Proofs.Ytmfkedeaifdfdaa.X
open Go.RowKit Go.Proofs.YtmfkedeaifdfdaaW.PrintWords Go.Proofs.YtmfkedeaifdfdaaW.PrintLast Go.Proofs.YtmfkedeaifdfdaaW.PrintMore
set_option linter.unusedVariables false
set_option linter.unusedSimpArgs false

section
variable {b r p l q t s c : Int}
theorem ref_CheckLimit_eq : spigotref03_CheckLimit.f b r p = bucket_CheckLimit.f b r p := rfl
theorem ref_CheckLimit_ok (h : VL b r p) : spigotref03_CheckLimit.f b r p = some 0 := CheckLimit_ok h
theorem ref_CheckLimit_bad (h : ¬ VL b r p) : spigotref03_CheckLimit.f b r p = some 8 := CheckLimit_bad h
theorem ref_Check_ok (h : VB b r p l q s) : spigotref03_Check.f b r p l q s = some 0 := by
  obtain ⟨hl, h1, h2, h3, h4, h5, _⟩ := h
  unfold spigotref03_Check.f
  rw [ref_CheckLimit_ok hl]
  simp only [Option.bind_some, ↓reduceIte]
  rw [if_neg (by omega), if_neg (by omega), if_neg (by omega), if_neg (by omega)]
  by_cases c : l = b
  · rw [if_pos c, if_pos (h5 c)]
  · rw [if_neg c]
theorem ref_Check_bad (ht : U64 s) (h : ¬ VB b r p l q s) : spigotref03_Check.f b r p l q s = some 8 := by
  unfold spigotref03_Check.f
  by_cases hv : VL b r p
  · rw [ref_CheckLimit_ok hv]
    simp only [Option.bind_some, ↓reduceIte]
    have h' : ¬ (0 ≤ l ∧ l ≤ b ∧ 0 ≤ q ∧ q < p ∧ (l = b → q = 0)) := fun g => h ⟨hv, g.1, g.2.1, g.2.2.1, g.2.2.2.1, g.2.2.2.2, ht⟩
    repeat' split
    all_goals first | rfl | (exfalso; omega)
  · rw [ref_CheckLimit_bad hv]
    simp
theorem ref_Filled_ok (k : Nat) (hk : 300 ≤ k) (hv : VB b r p l q s) (ht : U64 t) : spigotref03_Filled.f k b r p l q s t = some (b, r, p, fL b r p l q s t, fP b r p l q s t, fT s t) := by
  unfold spigotref03_Filled.f
  by_cases c : t < s
  · rw [if_pos c]
    unfold fL fP fT
    rw [if_pos (by omega), if_pos (by omega), if_pos (by omega)]
  · rw [if_neg c]
    have hv0 := hv
    obtain ⟨n0, n1, m0, m1⟩ := fN_bd hv ht (by omega : s ≤ t)
    obtain ⟨⟨b0, b1, r0, r1, p0, p1⟩, l0, l1, q0, q1, hf, ⟨s0, s1⟩⟩ := hv
    obtain ⟨t0, t1⟩ := ht
    have ur : U64 r := ⟨by omega, by omega⟩
    have uq : U64 q := ⟨by omega, by omega⟩
    have up : U64 p := ⟨by omega, by omega⟩
    have ud : U64 (t - s) := ⟨by omega, by omega⟩
    have ub : U64 (b - l) := ⟨by omega, by omega⟩
    rw [wrap_id ud, wrap_id ur, wrap_id uq, wrap_id up, ref_Mul_ok ud ur]
    simp only [Option.bind_some]
    rw [ref_Add_ok (U64_hi m0 (by omega)) U64_lo U64_zero uq, wide_Add_ok (U64_hi m0 (by omega)) U64_lo U64_zero uq (by rw [wv_of, wv_zero]; omega), wv_of, wv_zero]
    simp only [Option.bind_some]
    have e : (t - s) * r + q = fN r q s t := rfl
    rw [e, ref_Div_ok k hk (U64_hi n0 (by omega)) U64_lo (by omega) up.2, wv_of]
    simp only [Option.bind_some]
    have d0 := div_nonneg n0 (by omega : 0 < p)
    obtain ⟨e1, e2, e3⟩ := div_rest (n := fN r q s t) (by omega : 0 < p)
    obtain ⟨k, rfl⟩ : ∃ m, k = m + 1 := ⟨k - 1, by omega⟩
    rw [wrap64_id (x := b - l) (by omega) (by omega), wrap_id ub, ref_Cmp_ok k U64_lo ub, wv_of, wv_zero]
    simp only [Option.bind_some]
    have hL : (if wcmp (fN r q s t / p) (b - l) ≥ 0 then some (b, r, p, b, 0, t) else some (b, r, p, wrap64 (l + wrap64 (fN r q s t / p % 18446744073709551616)), wrap64 (fN r q s t % p), t)) = if fN r q s t / p ≥ b - l then some (b, r, p, b, 0, t) else some (b, r, p, l + fN r q s t / p, fN r q s t % p, t) := by
      by_cases c3 : fN r q s t / p ≥ b - l
      · rw [if_pos (wcmp_nonneg.2 c3), if_pos c3]
      · rw [if_neg (fun h => c3 (wcmp_nonneg.1 h)), if_neg c3, show fN r q s t / p % 18446744073709551616 = fN r q s t / p by omega, wrap64_id (x := fN r q s t / p) (by omega) (by omega), wrap64_id (by omega) (by omega), wrap64_id (by omega) (by omega)]
    rw [hL]
    unfold fL fP fT
    by_cases ct : t ≤ s
    · rw [if_pos ct, if_pos ct, if_pos ct]
      have : t = s := by omega
      subst this
      have en : fN r q t t = q := by unfold fN; rw [Int.sub_self, Int.zero_mul, Int.zero_add]
      rw [en] at *
      have z : q / p = 0 := Int.ediv_eq_zero_of_lt q0 q1
      have z2 : q % p = q := Int.emod_eq_of_lt q0 q1
      rw [z, z2]
      by_cases c3 : 0 ≥ b - l
      · rw [if_pos c3, hf (by omega), show l = b by omega]
      · rw [if_neg c3, Int.add_zero]
    · rw [if_neg ct, if_neg ct, if_neg ct]
      by_cases c3 : fN r q s t / p ≥ b - l
      · rw [if_pos c3, if_pos c3, if_pos c3]
      · rw [if_neg c3, if_neg c3, if_neg c3]
theorem ref_Refill_ok (k : Nat) (hk : 300 ≤ k) (hv : VB b r p l q s) (ht : U64 t) : spigotref03_Refill.f k b r p l q s t = some (b, r, p, fL b r p l q s t, fP b r p l q s t, fT s t, 0) := by
  unfold spigotref03_Refill.f
  rw [ref_Check_ok hv]
  simp only [Option.bind_some, ↓reduceIte]
  rw [ref_Filled_ok k hk hv ht]
  rfl
theorem ref_Refill_bad (k : Nat) (hs : U64 s) (h : ¬ VB b r p l q s) : spigotref03_Refill.f k b r p l q s t = some (0, 0, 0, 0, 0, 0, 8) := by
  unfold spigotref03_Refill.f
  rw [ref_Check_bad hs h]
  rfl
theorem ref_Full_ok (h : VL b r p) : spigotref03_Full.f b r p t = some (b, r, p, b, 0, t, 0) := by unfold spigotref03_Full.f; rw [ref_CheckLimit_ok h]; rfl
theorem ref_Full_bad (h : ¬ VL b r p) : spigotref03_Full.f b r p t = some (0, 0, 0, 0, 0, 0, 8) := by unfold spigotref03_Full.f; rw [ref_CheckLimit_bad h]; rfl
end
end Go.Proofs.Ytmfkedeaifdfdaa.X
