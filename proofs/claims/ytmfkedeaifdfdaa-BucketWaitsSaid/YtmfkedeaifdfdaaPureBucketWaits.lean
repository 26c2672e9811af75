/- BucketWaits over whole numbers. -/
import Derived.Test.YtmfkedeaifdfdaaX13
import Derived.Test.YtmfkedeaifdfdaaBucketRef
import Derived.Test.YtmfkedeaifdfdaaBucketWait
import Derived.Test.YtmfkedeaifdfdaaAlive03
namespace Go.Proofs.Ytmfkedeaifdfdaa.X
open Go.RowKit Go.Proofs.YtmfkedeaifdfdaaW.PrintWords Go.Proofs.YtmfkedeaifdfdaaW.PrintLast Go.Proofs.YtmfkedeaifdfdaaW.PrintMore
set_option linter.unusedVariables false
set_option linter.unusedSimpArgs false

theorem BucketWaits_pure (b r p l q s c : Int) (_ : I64 b) (_ : I64 r) (_ : I64 p) (hl : I64 l) (_ : I64 q) (hs : U64 s) (hc : I64 c) : ∃ k, spigotlaw03_BucketWaits.f k b r p l q s c = some true := by
  refine ⟨101, ?_⟩
  unfold spigotlaw03_BucketWaits.f
  have al := alive03 100 (by omega)
  by_cases hv : VB b r p l q s
  · rw [ref_Check_ok hv]
    simp only [Option.bind_some, ↓reduceIte, spigotlaw03_BucketWaits.j0]
    by_cases c0 : c < 0
    · rw [if_pos (decide_eq_true c0), al]
      rfl
    · rw [if_neg (by simpa using c0), Wait_ok 100 (by omega) hv (by omega) hc]
      have um : U64 18446744073709551615 := ⟨by decide, by decide⟩
      have hs0 := hs.1
      have hs1 := hs.2
      simp only [Option.bind_some, ↓reduceIte]
      rw [Refill_ok 100 (by omega) hv um, al]
      simp only [Option.bind_some, ↓reduceIte]
      obtain ⟨w0, w1, w2⟩ := wait_spec hv (by omega : 0 ≤ c)
      by_cases e : waitOf b r p l q s c = 18446744073709551615
      · rw [if_pos e, if_pos ((w1 e).2 _ um (by omega))]
      · obtain ⟨g1, g2, g3, g4, g5⟩ := w2 e
        have h1 := (g5 _ um (by omega)).2 (by omega)
        have ut : U64 (s + waitOf b r p l q s c) := ⟨by omega, by omega⟩
        have h2 := (g5 _ ut (by omega)).2 (by omega)
        rw [if_neg e, if_neg (by omega), wrap_id (x := 18446744073709551615 - s) ⟨by omega, by omega⟩, if_neg (by omega), if_neg (by omega), wrap_id ut, Refill_ok 100 (by omega) hv ut]
        simp only [Option.bind_some]
        rw [Charge_ok (fill_valid hv ut) (by omega) h2]
        simp only [Option.bind_some, ↓reduceIte]
        by_cases z : waitOf b r p l q s c = 0
        · rw [if_pos z, if_pos (g3.1 z)]
        · have ut1 : U64 (s + waitOf b r p l q s c - 1) := ⟨by omega, by omega⟩
          have h3 := g5 _ ut1 (by omega)
          rw [if_neg z, wrap_id ut1, Refill_ok 100 (by omega) hv ut1]
          simp only [Option.bind_some]
          rw [Charge_low (fill_valid hv ut1) (by omega) (by omega)]
          simp
  · rw [ref_Check_bad hs hv]
    simp only [Option.bind_some, spigotlaw03_BucketWaits.j0]
    rw [if_neg (by decide)]
    simp only [↓reduceIte]
    rw [al]
    rfl
end Go.Proofs.Ytmfkedeaifdfdaa.X
