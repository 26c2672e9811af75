/- TallySums over whole numbers and lists. -/
import Derived.Test.YtcdmjdghmbdikaaX0
import Derived.Test.YtcdmjdghmbdikaaX6
import Derived.Test.YtcdmjdghmbdikaaTally
namespace Go.Proofs.Ytcdmjdghmbdikaa.X
open Go.RowKit Go.Proofs.YtcdmjdghmbdikaaW.PrintWords Go.Proofs.YtcdmjdghmbdikaaW.PrintLast Go.Proofs.YtcdmjdghmbdikaaW.PrintMore
set_option linter.unusedVariables false
set_option linter.unusedSimpArgs false

theorem same_loop (l : List S25) (hl : l.length ≤ 100) (e a b c : Int) :
    ∀ (d k : Nat) (i : Int), 0 ≤ i → i + d = l.length → d < k → spigotlaw21_TallySums.l0 k l l e e i a b c a b c = some true := by
  intro d
  induction d with
  | zero =>
    intro k i h0 hi hk
    obtain ⟨k, rfl⟩ : ∃ m, k = m + 1 := ⟨k - 1, by omega⟩
    simp only [spigotlaw21_TallySums.l0]
    rw [if_neg (by omega)]
    simp
  | succ d ih =>
    intro k i h0 hi hk
    obtain ⟨k, rfl⟩ : ∃ m, k = m + 1 := ⟨k - 1, by omega⟩
    simp only [spigotlaw21_TallySums.l0]
    rw [if_pos (by omega), if_pos h0, if_pos (by omega), if_neg (by simp), wrap64_id (x := i + 1) (by omega) (by omega)]
    exact ih k (i + 1) (by omega) (by omega) (by omega)
theorem TallySums_pure (l : List S25) (hm : l.length ≤ maxLen) (hg : ∀ y ∈ l, U64 y.f0 ∧ U64 y.f1 ∧ U64 y.f2) : ∃ k, spigotlaw21_TallySums.f k l = some true := by
  refine ⟨200, ?_⟩
  unfold spigotlaw21_TallySums.f
  by_cases c : (l.length : Int) > 100
  · rw [if_pos c]
  · rw [if_neg c]
    simp only [Option.bind_some, List.nil_append, List.length_nil, Nat.zero_add]
    rw [if_pos (by omega)]
    obtain ⟨r, hr⟩ := sums_same l hg (by omega)
    rw [(hr 200 (by omega)).1, (hr 200 (by omega)).2]
    simp only [Option.bind_some]
    exact same_loop l (by omega) _ _ _ _ l.length 200 0 (by omega) (by omega) (by omega)
end Go.Proofs.Ytcdmjdghmbdikaa.X
