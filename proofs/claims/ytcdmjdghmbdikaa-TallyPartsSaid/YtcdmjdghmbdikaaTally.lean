/- the package tally, and its reference, over whole numbers. -/
import Derived.Test.YtcdmjdghmbdikaaX0
import Derived.Test.YtcdmjdghmbdikaaX3
import Derived.Test.YtcdmjdghmbdikaaX4
import Derived.Test.YtcdmjdghmbdikaaX5
import Derived.Test.YtcdmjdghmbdikaaX11
import Derived.Test.YtcdmjdghmbdikaaMath
namespace Go.Proofs.Ytcdmjdghmbdikaa.X
open Go.RowKit Go.Proofs.YtcdmjdghmbdikaaW.PrintWords Go.Proofs.YtcdmjdghmbdikaaW.PrintLast Go.Proofs.YtcdmjdghmbdikaaW.PrintMore
set_option linter.unusedVariables false
set_option linter.unusedSimpArgs false

/-- The sum of two numbers, or the greatest number. -/
def sat (a b : Int) : Int := if a + b < 18446744073709551616 then a + b else 18446744073709551615
section
variable {a b c : Int}
theorem sat_U64 (ha : U64 a) (hb : U64 b) : U64 (sat a b) := by
  obtain ⟨_, _⟩ := ha; obtain ⟨_, _⟩ := hb
  unfold sat
  split <;> exact ⟨by omega, by omega⟩
theorem sat_comm (a b : Int) : sat a b = sat b a := by unfold sat; rw [Int.add_comm]
theorem sat_assoc (ha : U64 a) (hb : U64 b) (hc : U64 c) : sat (sat a b) c = sat a (sat b c) := by
  obtain ⟨_, _⟩ := ha; obtain ⟨_, _⟩ := hb; obtain ⟨_, _⟩ := hc
  unfold sat
  split <;> split <;> split <;> (try split) <;> omega
theorem sat_zero (ha : U64 a) : sat a 0 = a := by obtain ⟨_, _⟩ := ha; unfold sat; rw [if_pos (by omega)]; omega
theorem sat_ge (ha : U64 a) (hb : U64 b) : a ≤ sat a b := by obtain ⟨_, _⟩ := ha; obtain ⟨_, _⟩ := hb; unfold sat; split <;> omega
theorem U64_zero' : U64 0 := ⟨by decide, by decide⟩
theorem U64_one : U64 1 := ⟨by decide, by decide⟩
theorem U64_of_U32 (h : U32 a) : U64 a := by obtain ⟨_, _⟩ := h; exact ⟨by omega, by omega⟩
theorem tally_add_ok (ha : U64 a) (hb : U64 b) : tally_add.f a b = some (sat a b) := by
  obtain ⟨_, _⟩ := ha; obtain ⟨_, _⟩ := hb
  unfold tally_add.f bits_Add64.f sat
  rw [if_pos ⟨by omega, by omega, by omega, by omega⟩]
  simp only [Option.bind_some]
  by_cases c : a + b < 18446744073709551616
  · rw [if_neg (by omega), if_pos c]
    congr 1
    omega
  · rw [if_pos (by omega), if_neg c]
theorem ref_plus_ok (ha : U64 a) (hb : U64 b) : spigotref21_plus.f a b = some (sat a b) := by
  obtain ⟨_, _⟩ := ha; obtain ⟨_, _⟩ := hb
  unfold spigotref21_plus.f sat
  rw [wrap_id ⟨by omega, by omega⟩]
  by_cases c : a + b < 18446744073709551616
  · rw [if_neg (by omega), if_pos c, wrap_id ⟨by omega, by omega⟩]
  · rw [if_pos (by omega), if_neg c]
end
section
variable {a0 a1 a2 b0 b1 b2 c : Int}
theorem tally_Add_ok (h0 : U64 a0) (h1 : U64 a1) (h2 : U64 a2) (g0 : U64 b0) (g1 : U64 b1) (g2 : U64 b2) : tally_Add.f a0 a1 a2 b0 b1 b2 = some (sat a0 b0, sat a1 b1, sat a2 b2) := by
  unfold tally_Add.f
  rw [tally_add_ok h0 g0, tally_add_ok h1 g1, tally_add_ok h2 g2]
  rfl
theorem ref21_Add_ok (h0 : U64 a0) (h1 : U64 a1) (h2 : U64 a2) (g0 : U64 b0) (g1 : U64 b1) (g2 : U64 b2) : spigotref21_Add.f a0 a1 a2 b0 b1 b2 = some (sat a0 b0, sat a1 b1, sat a2 b2) := by
  unfold spigotref21_Add.f
  rw [ref_plus_ok h0 g0, ref_plus_ok h1 g1, ref_plus_ok h2 g2]
  rfl
theorem tally_Count_yes (h0 : U64 a0) (h2 : U64 a2) (hc : U32 c) : tally_Count.f a0 a1 a2 true c = some (sat a0 1, a1, sat a2 c) := by
  unfold tally_Count.f
  rw [if_pos rfl, wrap_id (U64_of_U32 hc), tally_add_ok h0 U64_one, tally_add_ok h2 (U64_of_U32 hc)]
  rfl
theorem tally_Count_no (h1 : U64 a1) : tally_Count.f a0 a1 a2 false c = some (a0, sat a1 1, a2) := by
  unfold tally_Count.f
  rw [if_neg (by decide), tally_add_ok h1 U64_one]
  rfl
end
theorem rdT_mem (l : List S25) (i : Int) (h0 : 0 ≤ i) (h1 : i < (l.length : Int)) : rd_T25 l i ∈ l := by
  unfold rd_T25
  have h : i.toNat < l.length := by omega
  rw [List.getD_eq_getElem?_getD, List.getElem?_eq_getElem h]
  exact List.getElem_mem h
/-- Both sums of a list are the same. -/
theorem sums_loop (l : List S25) (hg : ∀ y ∈ l, U64 y.f0 ∧ U64 y.f1 ∧ U64 y.f2) (hl : l.length ≤ 100) :
    ∀ (d : Nat) (i a b c : Int), 0 ≤ i → i + d = l.length → U64 a → U64 b → U64 c → ∃ r, ∀ k, d < k → tally_Sum.l0 k l (l.length : Int) i a b c = some r ∧ spigotref21_Sum.l0 k l i a b c = some r := by
  intro d
  induction d with
  | zero =>
    intro i a b c h0 hi ha hb hc
    refine ⟨(a, b, c, 0), fun k hk => ?_⟩
    obtain ⟨k, rfl⟩ : ∃ m, k = m + 1 := ⟨k - 1, by omega⟩
    simp only [tally_Sum.l0, spigotref21_Sum.l0]
    rw [if_neg (by omega), if_neg (by omega)]
    exact ⟨rfl, rfl⟩
  | succ d ih =>
    intro i a b c h0 hi ha hb hc
    obtain ⟨g0, g1, g2⟩ := hg _ (rdT_mem l i h0 (by omega))
    obtain ⟨r, hr⟩ := ih (i + 1) _ _ _ (by omega) (by omega) (sat_U64 ha g0) (sat_U64 hb g1) (sat_U64 hc g2)
    refine ⟨r, fun k hk => ?_⟩
    obtain ⟨k, rfl⟩ : ∃ m, k = m + 1 := ⟨k - 1, by omega⟩
    simp only [tally_Sum.l0, spigotref21_Sum.l0]
    rw [if_pos (by omega), if_pos h0, if_pos (by omega), if_pos (by omega), if_pos h0, tally_Add_ok ha hb hc g0 g1 g2, ref21_Add_ok ha hb hc g0 g1 g2]
    simp only [Option.bind_some]
    rw [wrap64_id (x := i + 1) (by omega) (by omega)]
    exact hr k (by omega)
theorem sums_same (l : List S25) (hg : ∀ y ∈ l, U64 y.f0 ∧ U64 y.f1 ∧ U64 y.f2) (hl : l.length ≤ 100) : ∃ r, ∀ k, 100 < k → tally_Sum.f k l = some r ∧ spigotref21_Sum.f k l = some r := by
  by_cases c : (l.length : Int) > 60
  · refine ⟨(0, 0, 0, 4), fun k _ => ?_⟩
    unfold tally_Sum.f spigotref21_Sum.f
    rw [if_pos c, if_pos c]
    exact ⟨rfl, rfl⟩
  · obtain ⟨r, hr⟩ := sums_loop l hg hl l.length 0 0 0 0 (by omega) (by omega) U64_zero' U64_zero' U64_zero'
    refine ⟨r, fun k hk => ?_⟩
    unfold tally_Sum.f spigotref21_Sum.f
    rw [if_neg c, if_neg c]
    exact hr k (by omega)
end Go.Proofs.Ytcdmjdghmbdikaa.X
