/- How a law's arguments are read out of memory. -/
import Derived.Test.YtbfdpodlnijeoaaX0
import Derived.Test.YtbfdpodlnijeoaaMath
import Derived.Deep.Slices
import Derived.ProofKit
namespace Go.Proofs.Ytbfdpodlnijeoaa.X
open Go.RowKit Go.Proofs.YtbfdpodlnijeoaaW.PrintWords Go.Proofs.YtbfdpodlnijeoaaW.PrintLast Go.Proofs.YtbfdpodlnijeoaaW.PrintMore
open Go.ChangeShapes Go.WideShapes
set_option linter.unusedVariables false
set_option linter.unusedSimpArgs false
section
variable {H : Type} {enc : TypeId × Value → H} {W : World}
theorem cells_of {w : World} {base : Nat} {a : Addr} {i n : Nat} {cs : List Value} (h : w.cells? base (a.add i) n = some cs) : cs.length = n ∧ ∀ j u, cs[j]? = some u → w.cell? (a.add (i + j)) = some u := by
  obtain ⟨_, hcl, hat⟩ := World.cells?_some h
  refine ⟨hcl, fun j u hu => ?_⟩
  have hj : j < n := by have := (List.getElem?_eq_some_iff.1 hu).1; omega
  rw [← Go.Deep.add_add, hat j hj, hu]
theorem C_of_trod {α : Type} {d : Kd α} {good : α → Prop} {t e : Nat} (ht : Try.prog.underlying t = some (.slice e)) (hs : Try.prog.cellsOf e = d.sz)
    (rd : ∀ (fuel : Nat) (cs : List Value) (x : DataW H × List MemPlace), DataW.trod enc Try.prog W 0 (fun _ => true) true fuel e cs = some x → ∃ y : α, d.K W y cs ∧ good y)
    {a : Option Addr} {n c fuel : Nat} {x : DataW H × List MemPlace} (h : DataW.trod enc Try.prog W 0 (fun _ => true) true fuel t [.slice a n c] = some x) :
    ∃ l : List α, n = l.length ∧ d.C W a l.length l ∧ l.length ≤ c ∧ l.length ≤ maxLen ∧ ∀ y ∈ l, good y := by
  rcases Go.Deep.open_slice ht h with ⟨hcs, _⟩ | ⟨ad, len, cap, m, n', D, Pl, hcs, _, hl, hm, hmm, _, hi⟩
  · simp only [List.cons.injEq, Value.slice.injEq, and_true] at hcs
    obtain ⟨rfl, rfl, rfl⟩ := hcs
    exact ⟨[], rfl, Kd.C_nil _ _, Nat.le_refl _, Nat.zero_le _, fun y hy => by cases hy⟩
  · simp only [List.cons.injEq, Value.slice.injEq, and_true] at hcs
    obtain ⟨rfl, rfl, rfl⟩ := hcs
    have hmc : m = c := by simpa using hmm
    subst hmc
    have key : ∀ k, k ≤ n → ∃ l : List α, l.length = k ∧ (∀ y ∈ l, good y) ∧ ∀ j p, l[j]? = some p → ∃ cs', cs'.length = d.sz ∧ d.K W p cs' ∧ ∀ i u, cs'[i]? = some u → W.cell? (ad.add (j * d.sz + i)) = some u := by
      intro k
      induction k with
      | zero => exact fun _ => ⟨[], rfl, fun y hy => (by cases hy), fun j p hj => (by simp at hj)⟩
      | succ k ih =>
        intro hk
        obtain ⟨l, hl1, hg, hc⟩ := ih (by omega)
        obtain ⟨cs', hcs', htr⟩ := hi k (by omega)
        obtain ⟨y, hy, hgy⟩ := rd _ _ _ htr
        obtain ⟨e1, e2⟩ := cells_of hcs'
        rw [hs] at e1 e2
        refine ⟨l ++ [y], by simp [hl1], ?_, ?_⟩
        · intro z hz
          rcases List.mem_append.1 hz with h | h
          · exact hg z h
          · obtain rfl : z = y := by simpa using h
            exact hgy
        · intro j p hj
          rcases Nat.lt_or_ge j k with hjk | hjk
          · rw [List.getElem?_append_left (by omega)] at hj
            exact hc j p hj
          · have : j = k := by have := (List.getElem?_eq_some_iff.1 hj).1; simp at this; omega
            subst this
            have hp : y = p := by rw [← hl1] at hj; simpa using hj
            subst hp
            exact ⟨cs', e1, hy, e2⟩
    obtain ⟨l, hl1, hg, hc⟩ := key n (Nat.le_refl _)
    refine ⟨l, hl1.symm, ⟨rfl, ?_, fun _ => ⟨ad, rfl, hc⟩⟩, by omega, by omega, hg⟩
    unfold maxLen at hm
    omega
theorem C_of_trodS {α : Type} {d : Kd α} {good : α → Prop} {t e : Nat} (ht : Try.prog.underlying t = some (.slice e)) (hs : Try.prog.cellsOf e = d.sz)
    (rd : ∀ (fuel : Nat) (cs : List Value) (x : DataW H × List MemPlace), DataW.trod enc Try.prog W 0 (fun _ => true) true fuel e cs = some x → ∃ y : α, d.K W y cs ∧ good y)
    {fuel : Nat} {cs : List Value} {x : DataW H × List MemPlace} (h : DataW.trod enc Try.prog W 0 (fun _ => true) true fuel t cs = some x) :
    ∃ (a : Option Addr) (c : Nat) (l : List α), cs = [.slice a l.length c] ∧ d.C W a l.length l ∧ l.length ≤ c ∧ l.length ≤ maxLen ∧ ∀ y ∈ l, good y := by
  have : ∃ (a : Option Addr) (n c : Nat), cs = [.slice a n c] := by
    rcases Go.Deep.open_slice ht h with ⟨hcs, _⟩ | ⟨ad, len, cap, m, n', D, Pl, hcs, _⟩
    · exact ⟨_, _, _, hcs⟩
    · exact ⟨_, _, _, hcs⟩
  obtain ⟨a, n, c, rfl⟩ := this
  obtain ⟨l, rfl, h1, h2, h3, h4⟩ := C_of_trod ht hs rd h
  exact ⟨a, c, l, rfl, h1, h2, h3, h4⟩

end
end Go.Proofs.Ytbfdpodlnijeoaa.X
