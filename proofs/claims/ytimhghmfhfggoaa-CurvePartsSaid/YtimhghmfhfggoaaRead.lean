/- How a law's arguments are read out of memory. -/
import Derived.Test.YtimhghmfhfggoaaX0
import Derived.Test.YtimhghmfhfggoaaMath
import Derived.Deep.Slices
import Derived.ProofKit
namespace Go.Proofs.Ytimhghmfhfggoaa.X
open Go.RowKit Go.Proofs.YtimhghmfhfggoaaW.PrintWords Go.Proofs.YtimhghmfhfggoaaW.PrintLast Go.Proofs.YtimhghmfhfggoaaW.PrintMore
open Go.ChangeShapes Go.WideShapes
set_option linter.unusedVariables false
set_option linter.unusedSimpArgs false
section
variable {H : Type} {enc : TypeId × Value → H} {W : World}
theorem cells_of {w : World} {base : Nat} {a : Addr} {i n : Nat} {cs : List Value} (h : w.cells? base (a.add i) n = some cs) : cs.length = n ∧ ∀ j u, cs[j]? = some u → w.cell? (a.add (i + j)) = some u := by
  obtain ⟨_, hcl, hat⟩ := World.cells?_some h
  refine ⟨hcl, fun j u hu => ?_⟩
  have hj : j < n := by have := (List.getElem?_eq_some_iff.1 hu).1; omega
  rw [← Go.Deep.add_add, hat j hj, hu]
theorem C_of_trod {α : Type} {d : Kd α} {good : α → Prop} {t e : Nat} (ht : Try.prog.underlying t = some (.slice e)) (hs : Try.prog.cellsOf e = d.sz)
    (rd : ∀ (fuel : Nat) (cs : List Value) (x : DataW H × List MemPlace), DataW.trod enc Try.prog W 0 (fun _ => true) true fuel e cs = some x → ∃ y : α, d.K W y cs ∧ good y)
    {a : Option Addr} {n c fuel : Nat} {x : DataW H × List MemPlace} (h : DataW.trod enc Try.prog W 0 (fun _ => true) true fuel t [.slice a n c] = some x) :
    ∃ l : List α, n = l.length ∧ d.C W a l.length l ∧ l.length ≤ c ∧ l.length ≤ maxLen ∧ ∀ y ∈ l, good y := by
  rcases Go.Deep.open_slice ht h with ⟨hcs, _⟩ | ⟨ad, len, cap, m, n', D, Pl, hcs, _, hl, hm, hmm, _, hi⟩
  · simp only [List.cons.injEq, Value.slice.injEq, and_true] at hcs
    obtain ⟨rfl, rfl, rfl⟩ := hcs
    exact ⟨[], rfl, Kd.C_nil _ _, Nat.le_refl _, Nat.zero_le _, fun y hy => by cases hy⟩
  · simp only [List.cons.injEq, Value.slice.injEq, and_true] at hcs
    obtain ⟨rfl, rfl, rfl⟩ := hcs
    have hmc : m = c := by simpa using hmm
    subst hmc
    have key : ∀ k, k ≤ n → ∃ l : List α, l.length = k ∧ (∀ y ∈ l, good y) ∧ ∀ j p, l[j]? = some p → ∃ cs', cs'.length = d.sz ∧ d.K W p cs' ∧ ∀ i u, cs'[i]? = some u → W.cell? (ad.add (j * d.sz + i)) = some u := by
      intro k
      induction k with
      | zero => exact fun _ => ⟨[], rfl, fun y hy => (by cases hy), fun j p hj => (by simp at hj)⟩
      | succ k ih =>
        intro hk
        obtain ⟨l, hl1, hg, hc⟩ := ih (by omega)
        obtain ⟨cs', hcs', htr⟩ := hi k (by omega)
        obtain ⟨y, hy, hgy⟩ := rd _ _ _ htr
        obtain ⟨e1, e2⟩ := cells_of hcs'
        rw [hs] at e1 e2
        refine ⟨l ++ [y], by simp [hl1], ?_, ?_⟩
        · intro z hz
          rcases List.mem_append.1 hz with h | h
          · exact hg z h
          · obtain rfl : z = y := by simpa using h
            exact hgy
        · intro j p hj
          rcases Nat.lt_or_ge j k with hjk | hjk
          · rw [List.getElem?_append_left (by omega)] at hj
            exact hc j p hj
          · have : j = k := by have := (List.getElem?_eq_some_iff.1 hj).1; simp at this; omega
            subst this
            have hp : y = p := by rw [← hl1] at hj; simpa using hj
            subst hp
            exact ⟨cs', e1, hy, e2⟩
    obtain ⟨l, hl1, hg, hc⟩ := key n (Nat.le_refl _)
    refine ⟨l, hl1.symm, ⟨rfl, ?_, fun _ => ⟨ad, rfl, hc⟩⟩, by omega, by omega, hg⟩
    unfold maxLen at hm
    omega
theorem C_of_trodS {α : Type} {d : Kd α} {good : α → Prop} {t e : Nat} (ht : Try.prog.underlying t = some (.slice e)) (hs : Try.prog.cellsOf e = d.sz)
    (rd : ∀ (fuel : Nat) (cs : List Value) (x : DataW H × List MemPlace), DataW.trod enc Try.prog W 0 (fun _ => true) true fuel e cs = some x → ∃ y : α, d.K W y cs ∧ good y)
    {fuel : Nat} {cs : List Value} {x : DataW H × List MemPlace} (h : DataW.trod enc Try.prog W 0 (fun _ => true) true fuel t cs = some x) :
    ∃ (a : Option Addr) (c : Nat) (l : List α), cs = [.slice a l.length c] ∧ d.C W a l.length l ∧ l.length ≤ c ∧ l.length ≤ maxLen ∧ ∀ y ∈ l, good y := by
  have : ∃ (a : Option Addr) (n c : Nat), cs = [.slice a n c] := by
    rcases Go.Deep.open_slice ht h with ⟨hcs, _⟩ | ⟨ad, len, cap, m, n', D, Pl, hcs, _⟩
    · exact ⟨_, _, _, hcs⟩
    · exact ⟨_, _, _, hcs⟩
  obtain ⟨a, n, c, rfl⟩ := this
  obtain ⟨l, rfl, h1, h2, h3, h4⟩ := C_of_trod ht hs rd h
  exact ⟨a, c, l, rfl, h1, h2, h3, h4⟩
theorem rd2 {fuel : Nat} {cs : List Value} {x : DataW H × List MemPlace} (h : DataW.trod enc Try.prog W 0 (fun _ => true) true fuel 2 cs = some x) : ∃ z : Int, cs = [.int .i64 z] ∧ I64 z := by
  obtain ⟨z, rfl, _, hw⟩ := DataW.trod_int Try.underlying2 h
  exact ⟨z, rfl, wf_i64 hw⟩
set_option maxRecDepth 100000 in
theorem rd49 {fuel : Nat} {cs : List Value} {x : DataW H × List MemPlace} (h : DataW.trod enc Try.prog W 0 (fun _ => true) true fuel 49 cs = some x) : ∃ (z0 : Int) (z1 : Int) (z2 : Int), cs = [.int .i64 z0, .int .i64 z1, .int .i64 z2] ∧ I64 z0 ∧ I64 z1 ∧ I64 z2 := by
  obtain ⟨ys, n, _, _, hlen, hyl, hf⟩ := DataW.trod_struct Try.underlying49 h
  have hlen' : cs.length = 3 := hlen.trans (by kernel_rfl)
  clear hlen h
  match cs, hlen' with
  | [c0, c1, c2], _ =>
    match ys, hyl with
    | [y0, y1, y2], _ =>
      have g0 : DataW.trod enc Try.prog W 0 (fun _ => true) true n 2 [c0] = some y0 := by
        have g : DataW.trod enc Try.prog W 0 (fun _ => true) true n 2 (([c0, c1, c2].drop 0).take (Try.prog.cellsOf 2)) = [y0, y1, y2][0]? := hf 0 _ rfl
        rw [show Try.prog.cellsOf 2 = 1 from by kernel_rfl] at g
        exact g
      obtain ⟨z0, e0, w0⟩ := rd2 g0
      have g1 : DataW.trod enc Try.prog W 0 (fun _ => true) true n 2 [c1] = some y1 := by
        have g : DataW.trod enc Try.prog W 0 (fun _ => true) true n 2 (([c0, c1, c2].drop 1).take (Try.prog.cellsOf 2)) = [y0, y1, y2][1]? := hf 1 _ rfl
        rw [show Try.prog.cellsOf 2 = 1 from by kernel_rfl] at g
        exact g
      obtain ⟨z1, e1, w1⟩ := rd2 g1
      have g2 : DataW.trod enc Try.prog W 0 (fun _ => true) true n 2 [c2] = some y2 := by
        have g : DataW.trod enc Try.prog W 0 (fun _ => true) true n 2 (([c0, c1, c2].drop 2).take (Try.prog.cellsOf 2)) = [y0, y1, y2][2]? := hf 2 _ rfl
        rw [show Try.prog.cellsOf 2 = 1 from by kernel_rfl] at g
        exact g
      obtain ⟨z2, e2, w2⟩ := rd2 g2
      simp only [List.cons.injEq, and_true] at e0 e1 e2
      obtain rfl := e0
      obtain rfl := e1
      obtain rfl := e2
      exact ⟨z0, z1, z2, rfl, w0, w1, w2⟩
theorem kd49 (fuel : Nat) (cs : List Value) (x : DataW H × List MemPlace) (h : DataW.trod enc Try.prog W 0 (fun _ => true) true fuel 49 cs = some x) : ∃ y : S49, Kd.K k49 W y cs ∧ (I64 y.f0 ∧ I64 y.f1 ∧ I64 y.f2) := by
  obtain ⟨z0, z1, z2, rfl, w0, w1, w2⟩ := rd49 h
  exact ⟨⟨z0, z1, z2⟩, k49_mk _ _, w0, w1, w2⟩
theorem rd24 {fuel : Nat} {cs : List Value} {x : DataW H × List MemPlace} (h : DataW.trod enc Try.prog W 0 (fun _ => true) true fuel 24 cs = some x) : ∃ z : Int, cs = [.int .u64 z] ∧ U64 z := by
  obtain ⟨z, rfl, _, hw⟩ := DataW.trod_int Try.underlying24 h
  exact ⟨z, rfl, wf_u64 hw⟩
set_option maxRecDepth 100000 in
theorem rd62 {fuel : Nat} {cs : List Value} {x : DataW H × List MemPlace} (h : DataW.trod enc Try.prog W 0 (fun _ => true) true fuel 62 cs = some x) : ∃ (z0 : Int) (z1 : Int), cs = [.int .u64 z0, .int .i64 z1] ∧ U64 z0 ∧ I64 z1 := by
  obtain ⟨ys, n, _, _, hlen, hyl, hf⟩ := DataW.trod_struct Try.underlying62 h
  have hlen' : cs.length = 2 := hlen.trans (by kernel_rfl)
  clear hlen h
  match cs, hlen' with
  | [c0, c1], _ =>
    match ys, hyl with
    | [y0, y1], _ =>
      have g0 : DataW.trod enc Try.prog W 0 (fun _ => true) true n 24 [c0] = some y0 := by
        have g : DataW.trod enc Try.prog W 0 (fun _ => true) true n 24 (([c0, c1].drop 0).take (Try.prog.cellsOf 24)) = [y0, y1][0]? := hf 0 _ rfl
        rw [show Try.prog.cellsOf 24 = 1 from by kernel_rfl] at g
        exact g
      obtain ⟨z0, e0, w0⟩ := rd24 g0
      have g1 : DataW.trod enc Try.prog W 0 (fun _ => true) true n 2 [c1] = some y1 := by
        have g : DataW.trod enc Try.prog W 0 (fun _ => true) true n 2 (([c0, c1].drop 1).take (Try.prog.cellsOf 2)) = [y0, y1][1]? := hf 1 _ rfl
        rw [show Try.prog.cellsOf 2 = 1 from by kernel_rfl] at g
        exact g
      obtain ⟨z1, e1, w1⟩ := rd2 g1
      simp only [List.cons.injEq, and_true] at e0 e1
      obtain rfl := e0
      obtain rfl := e1
      exact ⟨z0, z1, rfl, w0, w1⟩
theorem kd62 (fuel : Nat) (cs : List Value) (x : DataW H × List MemPlace) (h : DataW.trod enc Try.prog W 0 (fun _ => true) true fuel 62 cs = some x) : ∃ y : S62, Kd.K k62 W y cs ∧ (U64 y.f0 ∧ I64 y.f1) := by
  obtain ⟨z0, z1, rfl, w0, w1⟩ := rd62 h
  exact ⟨⟨z0, z1⟩, k62_mk _ _, w0, w1⟩
end
end Go.Proofs.Ytimhghmfhfggoaa.X
