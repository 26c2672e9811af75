/- TallyShares over whole numbers. -/
import Derived.Test.YtcdmjdghmbdikaaX12
import Derived.Test.YtcdmjdghmbdikaaShare
import Derived.Test.YtcdmjdghmbdikaaPureTallyAdds
namespace Go.Proofs.Ytcdmjdghmbdikaa.X
open Go.RowKit Go.Proofs.YtcdmjdghmbdikaaW.PrintWords Go.Proofs.YtcdmjdghmbdikaaW.PrintLast Go.Proofs.YtcdmjdghmbdikaaW.PrintMore
set_option linter.unusedVariables false
set_option linter.unusedSimpArgs false

theorem share_full {a l p : Int} (ha : 0 ≤ a) (hl : 0 ≤ l) (hp : 0 ≤ p) : shareOf a l p = p ↔ l = 0 ∨ p = 0 := by
  unfold shareOf
  split
  · exact ⟨fun _ => .inl (by omega), fun _ => rfl⟩
  · rename_i h
    have hD : 0 < a + l := by omega
    refine ⟨fun e => ?_, fun e => ?_⟩
    · obtain ⟨b1, b2⟩ := div_bd (n := a * p) hD
      rw [e] at b1
      rw [Int.mul_comm p, Int.add_mul] at b1
      have h0 : l * p ≤ 0 := by omega
      rcases Int.lt_or_le 0 l with g | g
      · rcases Int.lt_or_le 0 p with f | f
        · have := Int.mul_pos g f
          omega
        · exact .inr (by omega)
      · exact .inl (by omega)
    · rcases e with e | e
      · subst e
        rw [Int.add_zero, Int.mul_ediv_cancel_left _ (by omega)]
      · subst e
        simp
theorem share_more {a l p m : Int} (ha : 0 ≤ a) (hl : 0 ≤ l) (hpm : p ≤ m) : shareOf a l p ≤ shareOf a l m ∧ shareOf a l m - shareOf a l p ≤ m - p := by
  unfold shareOf
  split
  · omega
  · have hD : 0 < a + l := by omega
    have h1 : a * p ≤ a * m := Int.mul_le_mul_of_nonneg_left hpm ha
    refine ⟨div_mono hD h1, ?_⟩
    have h2 : a * m ≤ a * p + (m - p) * (a + l) := by
      have : a * (m - p) ≤ (a + l) * (m - p) := Int.mul_le_mul_of_nonneg_right (by omega) (by omega)
      rw [Int.mul_comm (m - p)]
      rw [Int.mul_sub] at this
      omega
    have h3 := div_mono hD h2
    rw [Int.add_mul_ediv_right _ _ (by omega)] at h3
    omega
theorem TallyShares_pure (a l c p m : Int) (ha : U64 a) (hl : U64 l) (hc : U64 c) (hp : U64 p) (hm : U64 m) : ∃ k, spigotlaw21_TallyShares.f k a l c p m = some true := by
  refine ⟨500, ?_⟩
  obtain ⟨s0, s1⟩ := share_le ha.1 hl.1 hp.1
  obtain ⟨t0, t1⟩ := share_le ha.1 hl.1 hm.1
  unfold spigotlaw21_TallyShares.f
  rw [alive21, Share_ok 500 (by omega) ha hl hp]
  simp only [Option.bind_some, ↓reduceIte]
  rw [if_neg (by omega)]
  have fin : ∀ f : Bool, f = false → spigotlaw21_TallyShares.j0 500 p m true (shareOf a l p) f a l c = some true := by
    intro f hf
    subst hf
    simp only [spigotlaw21_TallyShares.j0, Bool.false_eq_true, ↓reduceIte]
    by_cases lt : m < p
    · rw [if_pos lt]
    · rw [if_neg lt, Share_ok 499 (by omega) ha hl hm]
      simp only [Option.bind_some, ↓reduceIte]
      obtain ⟨g1, g2⟩ := share_more (p := p) (m := m) ha.1 hl.1 (by omega)
      have := hm.2
      rw [if_pos (by omega), wrap_id ⟨by omega, by omega⟩, wrap_id ⟨by have := hp.1; omega, by have := hp.1; omega⟩, decide_eq_true g2]
  have full := share_full ha.1 hl.1 hp.1
  by_cases z : l = 0
  · rw [if_pos z]
    refine fin _ ?_
    rw [bne_eq_false_iff_eq, beq_iff_eq]
    exact full.2 (.inl z)
  · rw [if_neg z]
    refine fin _ ?_
    rw [bne_eq_false_iff_eq, Bool.eq_iff_iff, beq_iff_eq, beq_iff_eq]
    exact ⟨fun e => (full.1 e).resolve_left z, fun e => full.2 (.inr e)⟩
end Go.Proofs.Ytcdmjdghmbdikaa.X
