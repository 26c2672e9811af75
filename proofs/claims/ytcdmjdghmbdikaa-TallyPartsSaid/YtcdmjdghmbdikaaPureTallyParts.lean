/- TallyParts over whole numbers and lists. -/
import Derived.Test.YtcdmjdghmbdikaaX11
import Derived.Test.YtcdmjdghmbdikaaX13
import Derived.Test.YtcdmjdghmbdikaaPureTallyAdds
namespace Go.Proofs.Ytcdmjdghmbdikaa.X
open Go.RowKit Go.Proofs.YtcdmjdghmbdikaaW.PrintWords Go.Proofs.YtcdmjdghmbdikaaW.PrintLast Go.Proofs.YtcdmjdghmbdikaaW.PrintMore
set_option linter.unusedVariables false
set_option linter.unusedSimpArgs false

theorem parts_end {x : Int} {l : List Int} {a b c : Int} : spigotlaw21_TallyParts.j0 501 l x true true a b c = some true := by simp only [spigotlaw21_TallyParts.j0, ↓reduceIte]
theorem sat_swap {a b c : Int} (ha : U64 a) (hb : U64 b) (hc : U64 c) : sat (sat a b) c = sat (sat a c) b := by
  rw [sat_assoc ha hb hc, sat_comm b c, ← sat_assoc ha hc hb]
theorem parts_loop (l : List Int) (at_ : Int) (hg : ∀ y ∈ l, U32 y) (hl : l.length ≤ 60) :
    ∀ (d k : Nat) (i p0 p1 p2 q0 q1 q2 : Int), 0 ≤ i → i + d = l.length → d < k → U64 p0 → U64 p1 → U64 p2 → U64 q0 → U64 q1 → U64 q2 →
      spigotlaw21_TallyParts.l0 k l at_ true i (sat p0 q0) (sat p1 q1) (sat p2 q2) p0 p1 p2 q0 q1 q2 = some true := by
  intro d
  induction d with
  | zero =>
    intro k i p0 p1 p2 q0 q1 q2 h0 hi hk a0 a1 a2 b0 b1 b2
    obtain ⟨k, rfl⟩ : ∃ m, k = m + 1 := ⟨k - 1, by omega⟩
    simp only [spigotlaw21_TallyParts.l0, ↓reduceIte]
    rw [if_neg (by omega), tally_Add_ok a0 a1 a2 b0 b1 b2]
    simp
  | succ d ih =>
    intro k i p0 p1 p2 q0 q1 q2 h0 hi hk a0 a1 a2 b0 b1 b2
    obtain ⟨k, rfl⟩ : ∃ m, k = m + 1 := ⟨k - 1, by omega⟩
    have s0 := sat_U64 a0 b0
    have s1 := sat_U64 a1 b1
    have s2 := sat_U64 a2 b2
    have hm : U32 (rd l i) := by
      unfold rd
      have h : i.toNat < l.length := by omega
      rw [List.getD_eq_getElem?_getD, List.getElem?_eq_getElem h]
      exact hg _ (List.getElem_mem h)
    have hc := U64_of_U32 hm
    simp only [spigotlaw21_TallyParts.l0]
    generalize rd l i = c at *
    rw [if_pos (by omega), if_pos h0, wrap64_id (x := i + 1) (by omega) (by omega)]
    by_cases adm : (Int.tmod c 2 == 0) = true
    · rw [adm, tally_Count_yes s0 s2 hm, tally_Count_yes a0 a2 hm, tally_Count_yes b0 b2 hm]
      simp only [Option.bind_some]
      have k0 := sat_ge s0 U64_one
      have k2 := sat_ge s2 hc
      rw [if_neg (by omega), if_neg (by omega), if_neg (by omega)]
      by_cases e : i < at_
      · rw [if_pos e, sat_swap a0 b0 U64_one, sat_swap a2 b2 hc]
        exact ih k (i + 1) _ _ _ _ _ _ (by omega) (by omega) (by omega) (sat_U64 a0 U64_one) a1 (sat_U64 a2 hc) b0 b1 b2
      · rw [if_neg e, sat_assoc a0 b0 U64_one, sat_assoc a2 b2 hc]
        exact ih k (i + 1) _ _ _ _ _ _ (by omega) (by omega) (by omega) a0 a1 a2 (sat_U64 b0 U64_one) b1 (sat_U64 b2 hc)
    · have adm' : (Int.tmod c 2 == 0) = false := by simpa using adm
      rw [adm', tally_Count_no s1, tally_Count_no a1, tally_Count_no b1]
      simp only [Option.bind_some]
      have k1 := sat_ge s1 U64_one
      rw [if_neg (by omega), if_neg (by omega), if_neg (by omega)]
      by_cases e : i < at_
      · rw [if_pos e, sat_swap a1 b1 U64_one]
        exact ih k (i + 1) _ _ _ _ _ _ (by omega) (by omega) (by omega) a0 (sat_U64 a1 U64_one) a2 b0 b1 b2
      · rw [if_neg e, sat_assoc a1 b1 U64_one]
        exact ih k (i + 1) _ _ _ _ _ _ (by omega) (by omega) (by omega) a0 a1 a2 b0 (sat_U64 b1 U64_one) b2
theorem alive21' : spigotlaw21_alive.f 501 = some true := spigotlaw21_alive.mono 500 _ alive21
theorem TallyParts_pure (a0 a1 a2 : Int) (l : List Int) (at_ : Int) (h0 : U64 a0) (h1 : U64 a1) (h2 : U64 a2) (hm : l.length ≤ maxLen) (hg : ∀ y ∈ l, U32 y) (hi : I64 at_) : ∃ k, spigotlaw21_TallyParts.f k a0 a1 a2 l at_ = some true := by
  refine ⟨501, ?_⟩
  unfold spigotlaw21_TallyParts.f
  rw [alive21']
  simp only [Option.bind_some]
  by_cases c1 : (l.length : Int) > 60
  · rw [if_pos c1, parts_end]
  · rw [if_neg c1]
    by_cases c2 : at_ < 0
    · rw [if_pos c2, parts_end]
    · rw [if_neg c2]
      by_cases c3 : at_ > (l.length : Int)
      · rw [if_pos c3, parts_end]
      · rw [if_neg c3]
        simp only [spigotlaw21_TallyParts.j0, Bool.not_true, Bool.false_eq_true, ↓reduceIte]
        have e := parts_loop l at_ hg (by omega) l.length 500 0 a0 a1 a2 0 0 0 (by omega) (by omega) (by omega) h0 h1 h2 U64_zero' U64_zero' U64_zero'
        rw [sat_zero h0, sat_zero h1, sat_zero h2] at e
        exact e
end Go.Proofs.Ytcdmjdghmbdikaa.X
