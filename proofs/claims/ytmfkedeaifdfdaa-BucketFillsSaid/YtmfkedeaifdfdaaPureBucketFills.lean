/- BucketFills over whole numbers. -/
import Derived.Test.YtmfkedeaifdfdaaX9
import Derived.Test.YtmfkedeaifdfdaaBucketRef
namespace Go.Proofs.Ytmfkedeaifdfdaa.X
open Go.RowKit Go.Proofs.YtmfkedeaifdfdaaW.PrintWords Go.Proofs.YtmfkedeaifdfdaaW.PrintLast Go.Proofs.YtmfkedeaifdfdaaW.PrintMore
set_option linter.unusedVariables false
set_option linter.unusedSimpArgs false

theorem BucketFills_pure (b r p b' r' p' l q s t : Int) (_ : I64 b) (_ : I64 r) (_ : I64 p) (_ : I64 b') (_ : I64 r') (_ : I64 p') (hl : I64 l) (_ : I64 q) (hs : U64 s) (ht : U64 t) : ∃ k, spigotlaw03_BucketFills.f k b r p b' r' p' l q s t = some true := by
  refine ⟨300, ?_⟩
  unfold spigotlaw03_BucketFills.f
  by_cases h1 : VL b r p
  · rw [Full_ok h1, ref_Full_ok h1, CheckLimit_ok h1, ref_CheckLimit_ok h1]
    by_cases h2 : VB b' r' p' l q s
    · rw [Refill_ok 300 (by omega) h2 ht, ref_Refill_ok 300 (by omega) h2 ht, Check_ok h2, ref_Check_ok h2]
      simp
    · rw [Refill_bad 300 hs hl h2, ref_Refill_bad 300 hs h2, Check_bad hs hl h2, ref_Check_bad hs h2]
      simp
  · rw [Full_bad h1, ref_Full_bad h1, CheckLimit_bad h1, ref_CheckLimit_bad h1]
    by_cases h2 : VB b' r' p' l q s
    · rw [Refill_ok 300 (by omega) h2 ht, ref_Refill_ok 300 (by omega) h2 ht, Check_ok h2, ref_Check_ok h2]
      simp
    · rw [Refill_bad 300 hs hl h2, ref_Refill_bad 300 hs h2, Check_bad hs hl h2, ref_Check_bad hs h2]
      simp
end Go.Proofs.Ytmfkedeaifdfdaa.X
