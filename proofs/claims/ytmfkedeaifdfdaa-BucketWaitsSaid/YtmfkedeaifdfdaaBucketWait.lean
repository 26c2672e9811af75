/- the wait of a bucket is the least one. -/
import Derived.Test.YtmfkedeaifdfdaaBucket
namespace Go.Proofs.Ytmfkedeaifdfdaa.X
open Go.RowKit Go.Proofs.YtmfkedeaifdfdaaW.PrintWords Go.Proofs.YtmfkedeaifdfdaaW.PrintLast Go.Proofs.YtmfkedeaifdfdaaW.PrintMore
set_option linter.unusedVariables false
set_option linter.unusedSimpArgs false

section
variable {b r p l q t s c : Int}
/-- A bucket holds a cost exactly if its parts are enough. -/
theorem holds_iff {L P : Int} (p0 : 0 < p) (q0 : 0 ≤ P) (q1 : P < p) : c ≤ L ↔ c * p ≤ L * p + P := by
  constructor
  · intro h
    have := Int.mul_le_mul_of_nonneg_right h (by omega : 0 ≤ p)
    omega
  · intro h
    rcases Int.lt_or_le L c with g | g
    · have := Int.mul_le_mul_of_nonneg_right (by omega : L + 1 ≤ c) (by omega : 0 ≤ p)
      rw [Int.add_mul, Int.one_mul] at this
      omega
    · exact g
/-- Refilled at t, it holds the cost c, at most Burst, exactly if what came in is enough. -/
theorem fill_holds (hv : VB b r p l q s) (ht : U64 t) (h : s ≤ t) (hc : c ≤ b) : c ≤ fL b r p l q s t ↔ c * p ≤ l * p + q + (t - s) * r := by
  have hv' := fill_valid hv ht
  obtain ⟨f1, f2⟩ := fill_amt hv h
  obtain ⟨⟨_, _, _, _, p0, _⟩, _⟩ := hv
  obtain ⟨_, _, _, g0, g1, _⟩ := hv'
  rw [holds_iff (by omega) g0 g1]
  rcases Int.lt_or_le (l * p + q + (t - s) * r) (b * p) with g | g
  · rw [f1 g]
  · obtain ⟨e1, e2⟩ := f2 g
    rw [e1, e2]
    have := Int.mul_le_mul_of_nonneg_right hc (by omega : 0 ≤ p)
    omega
theorem fL_le (hv : VB b r p l q s) (ht : U64 t) : fL b r p l q s t ≤ b := (fill_valid hv ht).2.2.1
theorem fT_ge (h : s ≤ t) : fT s t = t := by unfold fT; split <;> omega
/-- What is known of the wait w for a cost c. -/
theorem wait_spec (hv : VB b r p l q s) (hc : 0 ≤ c) : 0 ≤ waitOf b r p l q s c ∧ (waitOf b r p l q s c = 18446744073709551615 → l < c ∧ ∀ t, U64 t → s ≤ t → fL b r p l q s t < c) ∧
    (waitOf b r p l q s c ≠ 18446744073709551615 → waitOf b r p l q s c ≤ 18446744073709551615 - s ∧ waitOf b r p l q s c ≤ 1000000000000000000 ∧ (waitOf b r p l q s c = 0 ↔ c ≤ l) ∧ c ≤ b ∧
      ∀ t, U64 t → s ≤ t → (c ≤ fL b r p l q s t ↔ waitOf b r p l q s c ≤ t - s)) := by
  have hv0 := hv
  obtain ⟨⟨b0, b1, r0, r1, p0, p1⟩, l0, l1, q0, q1, hf, ⟨s0, s1⟩⟩ := hv
  by_cases c1 : c ≤ l
  · have e : waitOf b r p l q s c = 0 := by unfold waitOf; rw [if_pos c1]
    rw [e]
    refine ⟨by omega, fun h => by omega, fun _ => ⟨by omega, by omega, ⟨fun _ => c1, fun _ => rfl⟩, by omega, fun t ht hst => ⟨fun _ => by omega, fun _ => ?_⟩⟩⟩
    rw [fill_holds hv0 ht hst (by omega)]
    have h1 := Int.mul_le_mul_of_nonneg_right c1 (by omega : 0 ≤ p)
    have h2 := Int.mul_nonneg (by omega : 0 ≤ t - s) r0
    omega
  · by_cases c2 : c > b ∨ r = 0
    · have e : waitOf b r p l q s c = 18446744073709551615 := by unfold waitOf; rw [if_neg c1, if_pos c2]
      rw [e]
      refine ⟨by omega, fun _ => ⟨by omega, fun t ht hst => ?_⟩, fun h => absurd rfl h⟩
      rcases c2 with c2 | c2
      · have := fL_le hv0 ht
        omega
      · rcases Int.lt_or_le b c with g | g
        · have := fL_le hv0 ht
          omega
        · have h := fill_holds hv0 ht hst g
          subst c2
          rw [Int.mul_zero] at h
          have h2 := holds_iff (p := p) (c := c) (L := l) (P := q) (by omega) q0 q1
          omega
    · have c2' : c ≤ b ∧ r ≠ 0 := by omega
      obtain ⟨m0, m1, m2⟩ := miss_bd hv0 (by omega : l < c) c2'.1
      obtain ⟨d0, d1, d2, d3⟩ := cdiv_bd (d := r) (by omega : 0 < r) m0
      have ew : cdiv ((c - l) * p - q) r = wN r p l q c := rfl
      rw [ew] at d0 d1 d2 d3
      rw [Int.sub_mul] at m0 m1 m2 d1 d2 d3
      have key : ∀ t, U64 t → s ≤ t → (c ≤ fL b r p l q s t ↔ wN r p l q c ≤ t - s) := by
        intro t ht hst
        rw [fill_holds hv0 ht hst c2'.1]
        constructor
        · intro h
          rcases Int.lt_or_le (t - s) (wN r p l q c) with g | g
          · have h3 := Int.mul_le_mul_of_nonneg_right (by omega : (t - s) + 1 ≤ wN r p l q c) r0
            rw [Int.add_mul, Int.one_mul] at h3
            omega
          · exact g
        · intro h
          have h3 := Int.mul_le_mul_of_nonneg_right h r0
          omega
      by_cases c4 : wN r p l q c > 18446744073709551615 - s
      · have e : waitOf b r p l q s c = 18446744073709551615 := by unfold waitOf; rw [if_neg c1, if_neg c2, if_pos c4]
        rw [e]
        refine ⟨by omega, fun _ => ⟨by omega, fun t ht hst => ?_⟩, fun h => absurd rfl h⟩
        have := key t ht hst
        have := ht.2
        omega
      · have e : waitOf b r p l q s c = wN r p l q c := by unfold waitOf; rw [if_neg c1, if_neg c2, if_neg c4]
        rw [e]
        exact ⟨by omega, fun h => by omega, fun _ => ⟨by omega, by omega, ⟨fun h => by omega, fun h => absurd h c1⟩, c2'.1, key⟩⟩
end
end Go.Proofs.Ytmfkedeaifdfdaa.X
