/- CurveParts, and what it needs. -/
import Derived.Test.YtimhghmfhfggoaaX0
import Derived.Test.YtimhghmfhfggoaaX3
import Derived.Test.YtimhghmfhfggoaaX4
import Derived.Test.YtimhghmfhfggoaaX5
import Derived.Test.YtimhghmfhfggoaaX6
import Derived.Test.YtimhghmfhfggoaaX7
import Derived.Test.YtimhghmfhfggoaaX8
import Derived.Test.YtimhghmfhfggoaaX9
import Derived.Test.YtimhghmfhfggoaaX10
import Derived.Test.YtimhghmfhfggoaaX11
import Derived.Test.YtimhghmfhfggoaaX12
import Derived.Test.YtimhghmfhfggoaaX13
import Derived.Test.YtimhghmfhfggoaaX14
import Derived.Test.YtimhghmfhfggoaaX15
import Derived.Test.YtimhghmfhfggoaaX16
import Derived.Test.YtimhghmfhfggoaaX17
import Derived.Test.YtimhghmfhfggoaaX18
import Derived.Test.YtimhghmfhfggoaaX19
import Derived.Test.YtimhghmfhfggoaaX20
import Derived.Test.YtimhghmfhfggoaaX21
import Derived.Test.YtimhghmfhfggoaaX23
import Derived.Test.YtimhghmfhfggoaaX26
import Derived.Test.YtimhghmfhfggoaaX27
import Derived.Test.YtimhghmfhfggoaaX28
import Derived.Test.YtimhghmfhfggoaaX29
import Derived.Test.YtimhghmfhfggoaaX30
import Derived.Test.YtimhghmfhfggoaaX31
import Derived.Test.YtimhghmfhfggoaaX32
import Derived.Test.YtimhghmfhfggoaaX33
import Derived.Test.YtimhghmfhfggoaaX35
import Derived.Test.YtimhghmfhfggoaaX45
import Derived.Test.YtimhghmfhfggoaaX46
import Derived.Test.YtimhghmfhfggoaaX47
import Derived.Test.YtimhghmfhfggoaaX48
import Derived.Test.YtimhghmfhfggoaaX49
import Derived.Test.YtimhghmfhfggoaaX50
import Derived.Test.YtimhghmfhfggoaaX51
import Derived.Test.YtimhghmfhfggoaaX52
import Derived.Test.YtimhghmfhfggoaaX53
import Derived.Test.YtimhghmfhfggoaaX56
import Derived.Test.YtimhghmfhfggoaaMath
namespace Go.Proofs.Ytimhghmfhfggoaa.X
open Go.RowKit Go.Proofs.YtimhghmfhfggoaaW.PrintWords Go.Proofs.YtimhghmfhfggoaaW.PrintLast Go.Proofs.YtimhghmfhfggoaaW.PrintMore
set_option linter.unusedVariables false
set_option linter.unusedSimpArgs false

def mrg : List S62 → List S62 → List S62
  | [], B => B
  | x :: A, [] => x :: A
  | x :: A, y :: B => if y.f0 < x.f0 then y :: mrg (x :: A) B else x :: mrg A (y :: B)
termination_by A B => A.length + B.length
theorem mrg_nil (A : List S62) : mrg A [] = A := by cases A <;> simp [mrg]
theorem nil_mrg (B : List S62) : mrg [] B = B := by simp [mrg]
theorem mrg_lt {x y : S62} {A B : List S62} (h : y.f0 < x.f0) : mrg (x :: A) (y :: B) = y :: mrg (x :: A) B := by rw [mrg, if_pos h]
theorem mrg_ge {x y : S62} {A B : List S62} (h : x.f0 ≤ y.f0) : mrg (x :: A) (y :: B) = x :: mrg A (y :: B) := by rw [mrg, if_neg (by omega)]
theorem mrg_split : ∀ (n : Nat) (A1 B1 A2 B2 : List S62), A1.length + B1.length = n → (∀ y ∈ B1, ∀ x ∈ A2, y.f0 < x.f0) → (∀ x ∈ A1, ∀ y ∈ B2, x.f0 ≤ y.f0) → mrg (A1 ++ A2) (B1 ++ B2) = mrg A1 B1 ++ mrg A2 B2 := by
  intro n
  induction n with
  | zero =>
    intro A1 B1 A2 B2 h _ _
    obtain rfl : A1 = [] := List.eq_nil_of_length_eq_zero (by omega)
    obtain rfl : B1 = [] := List.eq_nil_of_length_eq_zero (by omega)
    simp [nil_mrg]
  | succ n ih =>
    intro A1 B1 A2 B2 h h1 h2
    cases A1 with
    | nil =>
      cases B1 with
      | nil => simp [nil_mrg]
      | cons y B1 =>
        simp only [List.length_cons, List.length_nil] at h
        have e := ih [] B1 A2 B2 (by simp; omega) (fun z hz => h1 z (List.mem_cons_of_mem _ hz)) h2
        cases A2 with
        | nil => simp [nil_mrg]
        | cons x A2 =>
          rw [List.nil_append, List.cons_append, mrg_lt (h1 y List.mem_cons_self x List.mem_cons_self)]
          rw [List.nil_append] at e
          rw [e, nil_mrg, nil_mrg]
          rfl
    | cons x A1 =>
      simp only [List.length_cons] at h
      cases B1 with
      | nil =>
        have e := ih A1 [] A2 B2 (by simp at h ⊢; omega) h1 (fun z hz => h2 z (List.mem_cons_of_mem _ hz))
        cases B2 with
        | nil => simp [mrg_nil]
        | cons y B2 =>
          rw [List.nil_append, List.cons_append, mrg_ge (h2 x List.mem_cons_self y List.mem_cons_self)]
          rw [List.nil_append] at e
          rw [e, mrg_nil, mrg_nil]
          rfl
      | cons y B1 =>
        simp only [List.length_cons] at h
        by_cases c : y.f0 < x.f0
        · have e := ih (x :: A1) B1 A2 B2 (by simp; omega) (fun z hz => h1 z (List.mem_cons_of_mem _ hz)) h2
          rw [List.cons_append, List.cons_append, mrg_lt c, mrg_lt c, ← List.cons_append, e]
          rfl
        · have e := ih A1 (y :: B1) A2 B2 (by simp; omega) h1 (fun z hz => h2 z (List.mem_cons_of_mem _ hz))
          rw [List.cons_append, List.cons_append, mrg_ge (by omega), mrg_ge (by omega), ← List.cons_append, e]
          rfl
theorem mrg_assoc : ∀ (n : Nat) (A B C : List S62), A.length + B.length + C.length = n → mrg (mrg A B) C = mrg A (mrg B C) := by
  intro n
  induction n with
  | zero =>
    intro A B C h
    obtain rfl : A = [] := List.eq_nil_of_length_eq_zero (by omega)
    simp [nil_mrg]
  | succ n ih =>
    intro A B C h
    cases A with
    | nil => simp [nil_mrg]
    | cons x A =>
      cases B with
      | nil => simp [nil_mrg, mrg_nil]
      | cons y B =>
        cases C with
        | nil => simp [mrg_nil]
        | cons z C =>
          simp only [List.length_cons] at h
          by_cases c1 : y.f0 < x.f0
          · by_cases c2 : z.f0 < y.f0
            · have e := ih (x :: A) (y :: B) C (by simp; omega)
              rw [mrg_lt c1] at e
              rw [mrg_lt c1, mrg_lt c2, mrg_lt c2, mrg_lt (x := x) (by omega), e]
            · have e := ih (x :: A) B (z :: C) (by simp; omega)
              rw [mrg_lt c1, mrg_ge (x := y) (by omega), mrg_ge (x := y) (by omega), mrg_lt c1, e]
          · by_cases c2 : z.f0 < x.f0
            · have e := ih (x :: A) (y :: B) C (by simp; omega)
              rw [mrg_ge (x := x) (by omega)] at e
              rw [mrg_ge (x := x) (by omega), mrg_lt c2, mrg_lt (x := y) (by omega), mrg_lt c2, e]
            · have e := ih A (y :: B) (z :: C) (by simp; omega)
              rw [mrg_ge (x := x) (by omega), mrg_ge (x := x) (y := z) (by omega), e]
              by_cases c3 : z.f0 < y.f0
              · rw [mrg_lt c3, mrg_ge (x := x) (by omega)]
              · rw [mrg_ge (x := y) (by omega), mrg_ge (x := x) (by omega)]
theorem mrg_mem : ∀ (n : Nat) (A B : List S62), A.length + B.length = n → ∀ z, z ∈ mrg A B → z ∈ A ∨ z ∈ B := by
  intro n
  induction n with
  | zero =>
    intro A B h z hz
    obtain rfl : A = [] := List.eq_nil_of_length_eq_zero (by omega)
    rw [nil_mrg] at hz
    exact .inr hz
  | succ n ih =>
    intro A B h z hz
    cases A with
    | nil => rw [nil_mrg] at hz; exact .inr hz
    | cons x A =>
      cases B with
      | nil => rw [mrg_nil] at hz; exact .inl hz
      | cons y B =>
        simp only [List.length_cons] at h
        by_cases c : y.f0 < x.f0
        · rw [mrg_lt c] at hz
          rcases List.mem_cons.1 hz with rfl | hz
          · exact .inr List.mem_cons_self
          · rcases ih (x :: A) B (by simp; omega) z hz with g | g
            · exact .inl g
            · exact .inr (List.mem_cons_of_mem _ g)
        · rw [mrg_ge (by omega)] at hz
          rcases List.mem_cons.1 hz with rfl | hz
          · exact .inl List.mem_cons_self
          · rcases ih A (y :: B) (by simp; omega) z hz with g | g
            · exact .inl (List.mem_cons_of_mem _ g)
            · exact .inr g
theorem mrg_len : ∀ (n : Nat) (A B : List S62), A.length + B.length = n → (mrg A B).length = n := by
  intro n
  induction n with
  | zero =>
    intro A B h
    obtain rfl : A = [] := List.eq_nil_of_length_eq_zero (by omega)
    rw [nil_mrg]
    simpa using h
  | succ n ih =>
    intro A B h
    cases A with
    | nil => rw [nil_mrg]; simpa using h
    | cons x A =>
      cases B with
      | nil => rw [mrg_nil]; simpa using h
      | cons y B =>
        simp only [List.length_cons] at h
        by_cases c : y.f0 < x.f0
        · rw [mrg_lt c, List.length_cons, ih (x :: A) B (by simp; omega)]
        · rw [mrg_ge (by omega), List.length_cons, ih A (y :: B) (by simp; omega)]
def srt (L : List S62) : Prop := L.Pairwise fun x y => x.f0 ≤ y.f0
theorem srt_nil : srt [] := List.Pairwise.nil
theorem mrg_srt : ∀ (n : Nat) (A B : List S62), A.length + B.length = n → srt A → srt B → srt (mrg A B) := by
  intro n
  induction n with
  | zero =>
    intro A B h _ hB
    obtain rfl : A = [] := List.eq_nil_of_length_eq_zero (by omega)
    rw [nil_mrg]
    exact hB
  | succ n ih =>
    intro A B h hA hB
    cases A with
    | nil => rw [nil_mrg]; exact hB
    | cons x A =>
      cases B with
      | nil => rw [mrg_nil]; exact hA
      | cons y B =>
        simp only [List.length_cons] at h
        have a1 := List.pairwise_cons.1 hA
        have b1 := List.pairwise_cons.1 hB
        by_cases c : y.f0 < x.f0
        · rw [mrg_lt c]
          refine List.pairwise_cons.2 ⟨fun z hz => ?_, ih (x :: A) B (by simp; omega) hA b1.2⟩
          rcases mrg_mem _ _ _ rfl z hz with g | g
          · rcases List.mem_cons.1 g with rfl | g
            · omega
            · have := a1.1 z g
              omega
          · exact b1.1 z g
        · rw [mrg_ge (by omega)]
          refine List.pairwise_cons.2 ⟨fun z hz => ?_, ih A (y :: B) (by simp; omega) a1.2 hB⟩
          rcases mrg_mem _ _ _ rfl z hz with g | g
          · exact a1.1 z g
          · rcases List.mem_cons.1 g with rfl | g
            · omega
            · have := b1.1 z g
              omega
def istF (s : List S62) (B : List S62) : List S62 := B.foldl (fun s y => mrg s [y]) s
def ist (A : List S62) : List S62 := istF [] A
theorem istF_mrg : ∀ (B s t : List S62), istF (mrg s t) B = mrg s (istF t B) := by
  intro B
  induction B with
  | nil => intro s t; rfl
  | cons y B ih =>
    intro s t
    show istF (mrg (mrg s t) [y]) B = mrg s (istF (mrg t [y]) B)
    rw [mrg_assoc _ _ _ _ rfl, ih]
theorem ist_append (A B : List S62) : ist (A ++ B) = mrg (ist A) (ist B) := by
  have h := istF_mrg B (ist A) []
  rw [mrg_nil] at h
  rw [show ist B = istF [] B from rfl, ← h]
  unfold ist istF
  rw [List.foldl_append]
theorem istF_srt : ∀ (B s : List S62), srt s → srt (istF s B) := by
  intro B
  induction B with
  | nil => intro s h; exact h
  | cons y B ih => intro s h; exact ih _ (mrg_srt _ _ _ rfl h (List.pairwise_singleton _ _))
theorem ist_srt (A : List S62) : srt (ist A) := istF_srt A [] srt_nil
theorem istF_len : ∀ (B s : List S62), (istF s B).length = s.length + B.length := by
  intro B
  induction B with
  | nil => intro s; rfl
  | cons y B ih =>
    intro s
    show (istF (mrg s [y]) B).length = _
    rw [ih, mrg_len _ _ _ rfl]
    simp
    omega
theorem ist_len (A : List S62) : (ist A).length = A.length := by rw [show ist A = istF [] A from rfl, istF_len]; simp
theorem mrg_last {s : List S62} {y : S62} (h : ∀ x ∈ s, x.f0 ≤ y.f0) : mrg s [y] = s ++ [y] := by
  have e := mrg_split _ s [] [] [y] rfl (by simp) (fun x hx z hz => by rw [List.mem_singleton.1 hz]; exact h x hx)
  rw [List.append_nil, List.nil_append, mrg_nil, nil_mrg] at e
  exact e
theorem istF_id : ∀ (B s : List S62), srt (s ++ B) → istF s B = s ++ B := by
  intro B
  induction B with
  | nil => intro s _; simp [istF]
  | cons y B ih =>
    intro s h
    have h1 := List.pairwise_append.1 h
    show istF (mrg s [y]) B = _
    rw [mrg_last fun x hx => h1.2.2 x hx y List.mem_cons_self, ih (s ++ [y]) (by rw [List.append_assoc]; exact h), List.append_assoc]
    rfl
theorem ist_id {A : List S62} (h : srt A) : ist A = A := istF_id A [] h
theorem ist_two {A B : List S62} (hA : srt A) (hB : srt B) : ist (A ++ B) = mrg A B := by rw [ist_append, ist_id hA, ist_id hB]
theorem set_two {α : Type} (P M Q : List α) (x y : α) : ((P ++ x :: (M ++ y :: Q)).set P.length y).set (P.length + 1 + M.length) x = P ++ y :: (M ++ x :: Q) := by
  rw [List.set_append_right _ _ (Nat.le_refl _), Nat.sub_self, List.set_cons_zero, List.set_append_right _ _ (by omega), show P.length + 1 + M.length - P.length = M.length + 1 by omega, List.set_cons_succ, List.set_append_right _ _ (Nat.le_refl _), Nat.sub_self, List.set_cons_zero]
theorem set_two' {α : Type} (P M Q : List α) (x y : α) : ((P ++ x :: (M ++ y :: Q)).set (P.length + 1 + M.length) x).set P.length y = P ++ y :: (M ++ x :: Q) := by
  rw [List.set_comm _ _ (by omega)]
  exact set_two P M Q x y
theorem rdS_at {L : List S62} {j : Nat} (h : j < L.length) : rd_T62 L (j : Int) = L[j] := by
  unfold rd_T62
  rw [List.getD_eq_getElem?_getD, Int.toNat_natCast, List.getElem?_eq_getElem h]
  rfl
theorem rdS_mid (P Q : List S62) (x : S62) : rd_T62 (P ++ x :: Q) (P.length : Int) = x := by
  rw [rdS_at (by simp)]
  simp
theorem rdS_mid2 (P M Q : List S62) (x y : S62) : rd_T62 (P ++ x :: (M ++ y :: Q)) ((P.length + 1 + M.length : Nat) : Int) = y := by
  have e : P ++ x :: (M ++ y :: Q) = (P ++ x :: M) ++ y :: Q := by simp
  have e2 : P.length + 1 + M.length = (P ++ x :: M).length := by simp; omega
  rw [e, e2, rdS_mid]
theorem join1 (a b c d : Int) : ∃ t, curve_Join_1.f a b c d = some t ∧ (t < 0 ↔ a < c) := by
  unfold curve_Join_1.f
  by_cases h : a < c
  · exact ⟨-1, by rw [if_pos h], by omega⟩
  · by_cases h2 : a > c
    · exact ⟨1, by rw [if_neg h, if_pos h2], by omega⟩
    · exact ⟨0, by rw [if_neg h, if_neg h2], by omega⟩
theorem wj1 {n : Nat} (h : n ≤ 100000) : wrap64 ((n : Int) + 1) = ((n + 1 : Nat) : Int) := by unfold wrap64; omega
theorem wsub {n : Nat} (h : n ≤ 100000) : wrap64 (((n + 1 : Nat) : Int) - 1) = ((n : Nat) : Int) := by unfold wrap64; omega
theorem wadd {n m : Nat} (h : n + m ≤ 100000) : wrap64 ((n : Int) + (m : Int)) = ((n + m : Nat) : Int) := by unfold wrap64; omega
theorem wsb {n m : Nat} (h : m ≤ n) (h2 : n ≤ 100000) : wrap64 ((n : Int) - (m : Int)) = ((n - m : Nat) : Int) := by unfold wrap64; omega
theorem whalf {n m : Nat} (h : n + m ≤ 100000) : wrap64 ((IntKind.u64.wrap (wrap64 ((n : Int) + (m : Int)))) / 2) = (((n + m) / 2 : Nat) : Int) := by
  rw [wadd h, wrap_id ⟨by omega, by omega⟩]
  unfold wrap64
  omega
theorem mrg_down {A : List S62} {y z : S62} (h : y.f0 < z.f0) : mrg (A ++ [z]) [y] = mrg A [y] ++ [z] := by
  have e := mrg_split _ A [y] [z] [] rfl (fun u hu x hx => by rw [List.mem_singleton.1 hu, List.mem_singleton.1 hx]; exact h) (by simp)
  rw [List.append_nil, mrg_nil] at e
  exact e
theorem snoc_of {n : Nat} {A : List S62} (h : A.length = n + 1) : ∃ B z, A = B ++ [z] ∧ B.length = n := by
  rcases List.eq_nil_or_concat A with rfl | ⟨B, z, rfl⟩
  · simp at h
  · exact ⟨B, z, by simp, by simpa using h⟩
theorem ins_l1 : ∀ (n : Nat) (A P Q : List S62) (y : S62) (K0 k : Nat) (b i : Int) (r : List S62), A.length = n → srt A → P.length + A.length + 1 + Q.length ≤ 1000 →
    (∀ K, K0 ≤ K → slices_insertionSortCmpFunc_api_Charge_c47.l0 K (P ++ (mrg A [y] ++ Q)) (P.length : Int) b (wrap64 (i + 1)) = some r) → K0 + n + 1 ≤ k →
    slices_insertionSortCmpFunc_api_Charge_c47.l1 k (P ++ (A ++ y :: Q)) (P.length : Int) b i ((P.length + n : Nat) : Int) = some r := by
  intro n
  induction n with
  | zero =>
    intro A P Q y K0 k b i r hA _ hl h hk
    obtain ⟨k, rfl⟩ : ∃ m, k = m + 1 := ⟨k - 1, by omega⟩
    obtain rfl : A = [] := List.eq_nil_of_length_eq_zero hA
    simp only [slices_insertionSortCmpFunc_api_Charge_c47.l1]
    rw [if_neg (by omega)]
    have := h k (by omega)
    rw [nil_mrg] at this
    exact this
  | succ n ih =>
    intro A P Q y K0 k b i r hA hs hl h hk
    obtain ⟨k, rfl⟩ : ∃ m, k = m + 1 := ⟨k - 1, by omega⟩
    obtain ⟨B, z, rfl, hB⟩ := snoc_of hA
    have eD : P ++ ((B ++ [z]) ++ y :: Q) = (P ++ B) ++ z :: ([] ++ y :: Q) := by simp
    have el : (P ++ B).length = P.length + n := by rw [List.length_append, hB]
    have h0 : rd_T62 ((P ++ B) ++ z :: ([] ++ y :: Q)) ((P.length + n : Nat) : Int) = z := by rw [← el]; exact rdS_mid _ _ _
    have h1 : rd_T62 ((P ++ B) ++ z :: ([] ++ y :: Q)) ((P.length + (n + 1) : Nat) : Int) = y := by
      have := rdS_mid2 (P ++ B) [] Q z y
      rw [el] at this
      exact this
    have hD : (((P ++ B) ++ z :: ([] ++ y :: Q)).length : Nat) = P.length + n + 1 + 1 + Q.length := by simp; omega
    have ew : wrap64 (((P.length + (n + 1) : Nat) : Int) - 1) = ((P.length + n : Nat) : Int) := wsub (n := P.length + n) (by omega)
    obtain ⟨t, ht, hc⟩ := join1 y.f0 y.f1 z.f0 z.f1
    rw [eD]
    simp only [slices_insertionSortCmpFunc_api_Charge_c47.l1]
    rw [if_pos (by omega), if_pos (by omega), if_pos (by rw [hD]; omega), ew, if_pos (by omega), if_pos (by rw [hD]; omega), h0, h1, ht]
    simp only [Option.bind_some]
    by_cases c : y.f0 < z.f0
    · rw [if_pos (hc.2 c)]
      have g := ih B P (z :: Q) y K0 k b i r hB (List.pairwise_append.1 hs).1 (by simp at hl ⊢; omega) (fun K hK => by
        have := h K hK
        rw [mrg_down c, List.append_assoc] at this
        exact this) (by omega)
      refine Eq.trans ?_ g
      congr 1
      have e := set_two' (P ++ B) [] Q z y
      rw [el] at e
      refine Eq.trans e ?_
      simp
    · rw [if_neg (fun q => c (hc.1 q))]
      have g := h k (by omega)
      rw [mrg_last (fun x hx => by
        rcases List.mem_append.1 hx with q | q
        · have := (List.pairwise_append.1 hs).2.2 x q z (List.mem_singleton.2 rfl)
          omega
        · rw [List.mem_singleton.1 q]; omega)] at g
      refine Eq.trans ?_ g
      congr 1
      simp
theorem ins_l0 : ∀ (R D P Q : List S62) (k : Nat) (b : Int), srt D → 0 < D.length → P.length + D.length + R.length + Q.length ≤ 1000 → b = ((P.length + D.length + R.length : Nat) : Int) → 1010 * (R.length + 1) ≤ k →
    slices_insertionSortCmpFunc_api_Charge_c47.l0 k (P ++ (D ++ (R ++ Q))) (P.length : Int) b ((P.length + D.length : Nat) : Int) = some (P ++ (istF D R ++ Q)) := by
  intro R
  induction R with
  | nil =>
    intro D P Q k b _ _ hl hb hk
    obtain ⟨k, rfl⟩ : ∃ m, k = m + 1 := ⟨k - 1, by simp at hk; omega⟩
    simp only [slices_insertionSortCmpFunc_api_Charge_c47.l0]
    simp only [List.length_nil] at hb
    rw [if_neg (by omega)]
    rfl
  | cons y R ih =>
    intro D P Q k b hs h0 hl hb hk
    obtain ⟨k, rfl⟩ : ∃ m, k = m + 1 := ⟨k - 1, by omega⟩
    simp only [List.length_cons] at hl hb hk
    simp only [slices_insertionSortCmpFunc_api_Charge_c47.l0]
    rw [if_pos (by omega)]
    refine ins_l1 D.length D P (R ++ Q) y (1010 * (R.length + 1)) k b _ _ rfl hs (by simp; omega) (fun K hK => ?_) ?_
    · have hm : (mrg D [y]).length = D.length + 1 := mrg_len _ _ _ rfl
      have ew : wrap64 (((P.length + D.length : Nat) : Int) + 1) = ((P.length + (mrg D [y]).length : Nat) : Int) := by
        rw [hm]; exact wj1 (n := P.length + D.length) (by omega)
      rw [ew]
      have hb2 : b = ((P.length + (mrg D [y]).length + R.length : Nat) : Int) := by
        rw [hb, hm]
        exact congrArg (fun z : Nat => (z : Int)) (by omega)
      have hs2 : srt (mrg D [y]) := mrg_srt _ _ _ rfl hs (List.pairwise_singleton _ _)
      have hl2 : P.length + (mrg D [y]).length + R.length + Q.length ≤ 1000 := by rw [hm]; omega
      have h02 : 0 < (mrg D [y]).length := by rw [hm]; omega
      exact ih (mrg D [y]) P Q K b hs2 h02 hl2 hb2 hK
    · omega
theorem ins_f (A P Q : List S62) (c : Int) (k : Nat) (hl : P.length + A.length + Q.length ≤ 1000) (hk : 1010 * (A.length + 1) + 1 ≤ k) :
    slices_insertionSortCmpFunc_api_Charge_c47.f k (P ++ (A ++ Q)) (P.length : Int) ((P.length + A.length : Nat) : Int) c = some (P ++ (ist A ++ Q)) := by
  unfold slices_insertionSortCmpFunc_api_Charge_c47.f
  have ew : wrap64 ((P.length : Int) + 1) = ((P.length + 1 : Nat) : Int) := wj1 (by omega)
  rw [ew]
  cases A with
  | nil =>
    obtain ⟨k, rfl⟩ : ∃ m, k = m + 1 := ⟨k - 1, by omega⟩
    simp only [slices_insertionSortCmpFunc_api_Charge_c47.l0]
    rw [if_neg (by simp only [List.length_nil]; omega)]
    rfl
  | cons x A =>
    have g := ins_l0 A [x] P Q k _ (List.pairwise_singleton _ _) (by simp) (by simp at hl ⊢; omega) rfl (by simp only [List.length_cons] at hk; omega)
    have e3 : ist (x :: A) = istF [x] A := by
      show istF (mrg [] [x]) A = _
      rw [nil_mrg]
    rw [e3]
    refine Eq.trans ?_ g
    congr 1
    simp
    omega
theorem swp_l0 : ∀ (Y X P M Q A B : List S62) (k : Nat), X.length = Y.length → B.length = A.length → P.length + A.length + X.length + M.length + B.length + Y.length + Q.length ≤ 1000 → Y.length + 1 ≤ k →
    slices_swapRangeCmpFunc_api_Charge_c47.l0 k (P ++ (B ++ (X ++ (M ++ (A ++ (Y ++ Q)))))) (P.length : Int) ((P.length + (B.length + X.length) + M.length : Nat) : Int) ((B.length + X.length : Nat) : Int) (B.length : Int) = some (P ++ (B ++ (Y ++ (M ++ (A ++ (X ++ Q)))))) := by
  intro Y
  induction Y with
  | nil =>
    intro X P M Q A B k hX hB hl hk
    obtain ⟨k, rfl⟩ : ∃ m, k = m + 1 := ⟨k - 1, by omega⟩
    obtain rfl : X = [] := List.eq_nil_of_length_eq_zero hX
    simp only [slices_swapRangeCmpFunc_api_Charge_c47.l0, List.length_nil]
    rw [if_neg (by omega)]
  | cons y Y ih =>
    intro X P M Q A B k hX hB hl hk
    obtain ⟨k, rfl⟩ : ∃ m, k = m + 1 := ⟨k - 1, by omega⟩
    cases X with
    | nil => simp at hX
    | cons x X =>
      rw [List.length_cons, List.length_cons] at hX
      rw [List.length_cons, List.length_cons] at hl
      rw [List.length_cons] at hk
      have eD : P ++ (B ++ ((x :: X) ++ (M ++ (A ++ ((y :: Y) ++ Q))))) = (P ++ B) ++ x :: ((X ++ (M ++ A)) ++ y :: (Y ++ Q)) := by simp
      have el : (P ++ B).length = P.length + B.length := List.length_append
      have em : (X ++ (M ++ A)).length = X.length + M.length + A.length := by simp; omega
      have h0 : rd_T62 ((P ++ B) ++ x :: ((X ++ (M ++ A)) ++ y :: (Y ++ Q))) ((P.length + B.length : Nat) : Int) = x := by rw [← el]; exact rdS_mid _ _ _
      have e2 : (P ++ B).length + 1 + (X ++ (M ++ A)).length = P.length + (B.length + (X.length + 1)) + M.length + B.length := by omega
      have h1 : rd_T62 ((P ++ B) ++ x :: ((X ++ (M ++ A)) ++ y :: (Y ++ Q))) ((P.length + (B.length + (X.length + 1)) + M.length + B.length : Nat) : Int) = y := by
        have := rdS_mid2 (P ++ B) (X ++ (M ++ A)) (Y ++ Q) x y
        rw [e2] at this
        exact this
      have e := set_two (P ++ B) (X ++ (M ++ A)) (Y ++ Q) x y
      rw [e2, el] at e
      have hD : ((P ++ B) ++ x :: ((X ++ (M ++ A)) ++ y :: (Y ++ Q))).length = P.length + B.length + 1 + (X.length + M.length + A.length) + 1 + Y.length + Q.length := by simp; omega
      have b0 : (B.length : Int) < ((B.length + (X.length + 1) : Nat) : Int) := by omega
      have b1 : P.length + (B.length + (X.length + 1)) + M.length + B.length ≤ 100000 := by omega
      have b7 : P.length + B.length ≤ 100000 := by omega
      have b6 : B.length ≤ 100000 := by omega
      have b2 : 0 ≤ ((P.length + (B.length + (X.length + 1)) + M.length + B.length : Nat) : Int) := by omega
      have b4 : 0 ≤ ((P.length + B.length : Nat) : Int) := by omega
      have b3 : ((P.length + (B.length + (X.length + 1)) + M.length + B.length : Nat) : Int) < ((((P ++ B) ++ x :: ((X ++ (M ++ A)) ++ y :: (Y ++ Q))).length : Nat) : Int) := by rw [hD]; omega
      have b5 : ((P.length + B.length : Nat) : Int) < ((((P ++ B) ++ x :: ((X ++ (M ++ A)) ++ y :: (Y ++ Q))).length : Nat) : Int) := by rw [hD]; omega
      have lb : (B ++ [y]).length = B.length + 1 := by simp
      have g := ih X P M Q (A ++ [x]) (B ++ [y]) k (by omega) (by simp; omega) (by simp; omega) (by omega)
      rw [lb] at g
      have i1 : ((P.length + (B.length + 1 + X.length) + M.length : Nat) : Int) = ((P.length + (B.length + (X.length + 1)) + M.length : Nat) : Int) := congrArg (fun z : Nat => (z : Int)) (by omega)
      have i2 : ((B.length + 1 + X.length : Nat) : Int) = ((B.length + (X.length + 1) : Nat) : Int) := congrArg (fun z : Nat => (z : Int)) (by omega)
      rw [i1, i2] at g
      rw [eD, List.length_cons]
      simp only [slices_swapRangeCmpFunc_api_Charge_c47.l0]
      rw [if_pos b0, wadd b1, wadd b7, if_pos b2, if_pos b3, if_pos b4, if_pos b5, h0, h1, wj1 b6]
      have ex : P ++ ((B ++ [y]) ++ (X ++ (M ++ ((A ++ [x]) ++ (Y ++ Q))))) = (P ++ B) ++ y :: ((X ++ (M ++ A)) ++ x :: (Y ++ Q)) := by simp
      rw [ex] at g
      refine Eq.trans (congrArg (fun D => slices_swapRangeCmpFunc_api_Charge_c47.l0 k D (P.length : Int) ((P.length + (B.length + (X.length + 1)) + M.length : Nat) : Int) ((B.length + (X.length + 1) : Nat) : Int) ((B.length + 1 : Nat) : Int)) e) (g.trans ?_)
      simp
theorem swp_f (P X M Y Q : List S62) (c : Int) (k : Nat) (h : X.length = Y.length) (hl : P.length + X.length + M.length + Y.length + Q.length ≤ 1000) (hk : Y.length + 1 ≤ k) :
    slices_swapRangeCmpFunc_api_Charge_c47.f k (P ++ (X ++ (M ++ (Y ++ Q)))) (P.length : Int) ((P.length + X.length + M.length : Nat) : Int) (X.length : Int) c = some (P ++ (Y ++ (M ++ (X ++ Q)))) := by
  unfold slices_swapRangeCmpFunc_api_Charge_c47.f
  have g := swp_l0 Y X P M Q [] [] k h rfl (by simp only [List.length_nil]; omega) hk
  simp only [List.length_nil, Nat.zero_add, List.nil_append] at g
  exact g
theorem wsubP {p x : Nat} (h : p + x ≤ 100000) : wrap64 (((p + x : Nat) : Int) - (x : Int)) = ((p : Nat) : Int) := by unfold wrap64; omega
theorem rot_l0 : ∀ (N : Nat) (X Y P Q : List S62) (c : Int) (k : Nat), X.length + Y.length ≤ N → 0 < X.length → 0 < Y.length → P.length + X.length + Y.length + Q.length ≤ 1000 → N + 1002 ≤ k →
    slices_rotateCmpFunc_api_Charge_c47.l0 k (P ++ (X ++ (Y ++ Q))) ((P.length + X.length : Nat) : Int) c (X.length : Int) (Y.length : Int) = some (P ++ (Y ++ (X ++ Q))) := by
  intro N
  induction N with
  | zero => intro X Y P Q c k h h1; omega
  | succ N ih =>
    intro X Y P Q c k h h1 h2 hl hk
    obtain ⟨k, rfl⟩ : ∃ m, k = m + 1 := ⟨k - 1, by omega⟩
    have bp : P.length + X.length ≤ 100000 := by omega
    by_cases c0 : X.length = Y.length
    · have c0' : (X.length : Int) = (Y.length : Int) := by omega
      have by1 : Y.length + 1 ≤ k := by omega
      have g := swp_f P X [] Y Q c k c0 (by simp only [List.length_nil]; omega) by1
      simp only [List.length_nil, Nat.add_zero, List.nil_append] at g
      simp only [slices_rotateCmpFunc_api_Charge_c47.l0]
      rw [if_pos c0', wsubP bp, g]
      rfl
    · have c0' : ¬ (X.length : Int) = (Y.length : Int) := by omega
      by_cases c1 : X.length > Y.length
      · have c1' : (X.length : Int) > (Y.length : Int) := by omega
        obtain ⟨X1, X2, rfl, hX1⟩ : ∃ X1 X2, X = X1 ++ X2 ∧ X1.length = Y.length := ⟨X.take Y.length, X.drop Y.length, (List.take_append_drop _ _).symm, by rw [List.length_take]; omega⟩
        rw [List.length_append] at h h1 hl bp c0 c1 c0' c1' 
        have by1 : Y.length + 1 ≤ k := by omega
        have g := swp_f P X1 X2 Y Q c k hX1 (by omega) by1
        have g2 := ih X2 X1 (P ++ Y) Q c k (by omega) (by omega) (by omega) (by rw [List.length_append]; omega) (by omega)
        have b3 : Y.length ≤ X1.length + X2.length := by omega
        have b4 : X1.length + X2.length ≤ 100000 := by omega
        have e3 : X1.length + X2.length - Y.length = X2.length := by omega
        have e4 : (P ++ Y).length + X2.length = P.length + (X1.length + X2.length) := by rw [List.length_append]; omega
        have e5 : P.length + X1.length + X2.length = P.length + (X1.length + X2.length) := by omega
        rw [e4, hX1] at g2
        rw [e5, hX1] at g
        simp only [slices_rotateCmpFunc_api_Charge_c47.l0]
        rw [List.length_append, if_neg c0', if_pos c1', wsubP bp, hX1]
        rw [hX1] at b3 b4 e3
        rw [wsb b3 b4, e3, List.append_assoc]
        rw [g]
        simp only [Option.bind_some]
        rw [List.append_assoc] at g2
        rw [g2]
        simp
      · have c1' : ¬ (X.length : Int) > (Y.length : Int) := by omega
        obtain ⟨Y1, Y2, rfl, hY2⟩ : ∃ Y1 Y2, Y = Y1 ++ Y2 ∧ Y2.length = X.length := ⟨Y.take (Y.length - X.length), Y.drop (Y.length - X.length), (List.take_append_drop _ _).symm, by rw [List.length_drop]; omega⟩
        rw [List.length_append] at h h2 hl c0 c1 c0' c1'
        have by1 : Y2.length + 1 ≤ k := by omega
        have g := swp_f P X Y1 Y2 Q c k hY2.symm (by omega) by1
        have g2 := ih Y2 Y1 P (X ++ Q) c k (by omega) (by omega) (by omega) (by rw [List.length_append]; omega) (by omega)
        have b1 : P.length + X.length + (Y1.length + Y2.length) ≤ 100000 := by omega
        have e1 : P.length + X.length + (Y1.length + Y2.length) = (P.length + X.length + Y1.length) + X.length := by omega
        have b2 : (P.length + X.length + Y1.length) + X.length ≤ 100000 := by omega
        have b3 : X.length ≤ Y1.length + Y2.length := by omega
        have b4 : Y1.length + Y2.length ≤ 100000 := by omega
        have e3 : Y1.length + Y2.length - X.length = Y1.length := by omega
        rw [hY2] at g2
        simp only [slices_rotateCmpFunc_api_Charge_c47.l0]
        rw [List.length_append, if_neg c0', if_neg c1', wsubP bp, wadd b1, e1, wsubP b2, wsb b3 b4, e3, List.append_assoc]
        rw [g]
        simp only [Option.bind_some]
        rw [g2]
        simp
theorem rot_f (P X Y Q : List S62) (c : Int) (k : Nat) (h1 : 0 < X.length) (h2 : 0 < Y.length) (hl : P.length + X.length + Y.length + Q.length ≤ 1000) (hk : X.length + Y.length + 1002 ≤ k) :
    slices_rotateCmpFunc_api_Charge_c47.f k (P ++ (X ++ (Y ++ Q))) (P.length : Int) ((P.length + X.length : Nat) : Int) ((P.length + X.length + Y.length : Nat) : Int) c = some (P ++ (Y ++ (X ++ Q))) := by
  unfold slices_rotateCmpFunc_api_Charge_c47.f
  have b1 : P.length ≤ P.length + X.length := by omega
  have b2 : P.length + X.length ≤ 100000 := by omega
  have b3 : P.length + X.length ≤ P.length + X.length + Y.length := by omega
  have b4 : P.length + X.length + Y.length ≤ 100000 := by omega
  have e1 : P.length + X.length - P.length = X.length := by omega
  have e2 : P.length + X.length + Y.length - (P.length + X.length) = Y.length := by omega
  rw [wsb b1 b2, wsb b3 b4, e1, e2]
  exact rot_l0 _ X Y P Q c k (Nat.le_refl _) h1 h2 hl hk
theorem mrg_one {x : S62} {B1 B2 : List S62} (h1 : ∀ y ∈ B1, y.f0 < x.f0) (h2 : ∀ y ∈ B2, x.f0 ≤ y.f0) : mrg [x] (B1 ++ B2) = B1 ++ x :: B2 := by
  have e := mrg_split _ [] B1 [x] B2 rfl (fun y hy z hz => by rw [List.mem_singleton.1 hz]; exact h1 y hy) (by simp)
  have e2 := mrg_split _ [x] [] [] B2 rfl (by simp) (fun z hz y hy => by rw [List.mem_singleton.1 hz]; exact h2 y hy)
  simp only [List.nil_append, List.append_nil, nil_mrg, mrg_nil] at e e2
  rw [e, e2]
  rfl
theorem mrg_one' {y : S62} {A1 A2 : List S62} (h1 : ∀ x ∈ A1, x.f0 ≤ y.f0) (h2 : ∀ x ∈ A2, y.f0 < x.f0) : mrg (A1 ++ A2) [y] = A1 ++ y :: A2 := by
  have e := mrg_split _ A1 [] A2 [y] rfl (by simp) (fun x hx z hz => by rw [List.mem_singleton.1 hz]; exact h1 x hx)
  have e2 := mrg_split _ [] [y] A2 [] rfl (fun z hz x hx => by rw [List.mem_singleton.1 hz]; exact h2 x hx) (by simp)
  simp only [List.nil_append, List.append_nil, nil_mrg, mrg_nil] at e e2
  rw [e, e2]
  rfl
theorem sym_l1 : ∀ (B1 : List S62) (x : S62) (P Q : List S62) (k : Nat), P.length + B1.length + 1 + Q.length ≤ 1000 → B1.length + 1 ≤ k →
    slices_symMergeCmpFunc_api_Charge_c47.l1 k (P ++ x :: (B1 ++ Q)) ((P.length + 1 + B1.length : Nat) : Int) (P.length : Int) = some (P ++ (B1 ++ x :: Q)) := by
  intro B1
  induction B1 with
  | nil =>
    intro x P Q k hl hk
    obtain ⟨k, rfl⟩ : ∃ m, k = m + 1 := ⟨k - 1, by omega⟩
    have b1 : P.length ≤ 100000 := by omega
    have b2 : ¬ (P.length : Int) < (P.length : Int) := by omega
    simp only [slices_symMergeCmpFunc_api_Charge_c47.l1, List.length_nil, Nat.add_zero]
    rw [wsub b1, if_neg b2]
    rfl
  | cons y B1 ih =>
    intro x P Q k hl hk
    obtain ⟨k, rfl⟩ : ∃ m, k = m + 1 := ⟨k - 1, by omega⟩
    rw [List.length_cons] at hl hk
    have b1 : P.length + 1 + B1.length ≤ 100000 := by omega
    have b2 : (P.length : Int) < ((P.length + 1 + B1.length : Nat) : Int) := by omega
    have b3 : P.length ≤ 100000 := by omega
    have hD : (P ++ x :: ((y :: B1) ++ Q)).length = P.length + 1 + 1 + B1.length + Q.length := by simp; omega
    have b4 : 0 ≤ ((P.length + 1 : Nat) : Int) := by omega
    have b5 : ((P.length + 1 : Nat) : Int) < (((P ++ x :: ((y :: B1) ++ Q)).length : Nat) : Int) := by rw [hD]; omega
    have b6 : 0 ≤ (P.length : Int) := by omega
    have b7 : (P.length : Int) < (((P ++ x :: ((y :: B1) ++ Q)).length : Nat) : Int) := by rw [hD]; omega
    have h0 : rd_T62 (P ++ x :: ((y :: B1) ++ Q)) (P.length : Int) = x := rdS_mid _ _ _
    have h1 : rd_T62 (P ++ x :: ((y :: B1) ++ Q)) ((P.length + 1 : Nat) : Int) = y := rdS_mid2 P [] (B1 ++ Q) x y
    have g := ih x (P ++ [y]) Q k (by simp; omega) (by omega)
    have lp : (P ++ [y]).length = P.length + 1 := by simp
    rw [lp] at g
    have ei : P.length + 1 + 1 + B1.length = P.length + 1 + (B1.length + 1) := by omega
    rw [ei] at g
    have e := set_two P [] (B1 ++ Q) x y
    simp only [slices_symMergeCmpFunc_api_Charge_c47.l1, List.length_cons]
    rw [show P.length + 1 + (B1.length + 1) = (P.length + 1 + B1.length) + 1 by omega, wsub b1, if_pos b2, wj1 b3, if_pos b4, if_pos b5, if_pos b6, if_pos b7, h0, h1]
    have ex : (P ++ [y]) ++ x :: (B1 ++ Q) = P ++ y :: ([] ++ x :: (B1 ++ Q)) := by simp
    rw [ex, show P.length + 1 + (B1.length + 1) = (P.length + 1 + B1.length) + 1 by omega] at g
    refine Eq.trans (congrArg (fun D => slices_symMergeCmpFunc_api_Charge_c47.l1 k D (((P.length + 1 + B1.length) + 1 : Nat) : Int) ((P.length + 1 : Nat) : Int)) e) (g.trans ?_)
    simp
theorem sym_l3 : ∀ (n : Nat) (A2 : List S62) (y : S62) (P Q : List S62) (k : Nat), A2.length = n → P.length + n + 1 + Q.length ≤ 1000 → n + 1 ≤ k →
    slices_symMergeCmpFunc_api_Charge_c47.l3 k (P ++ (A2 ++ y :: Q)) (P.length : Int) ((P.length + n : Nat) : Int) = some (P ++ y :: (A2 ++ Q)) := by
  intro n
  induction n with
  | zero =>
    intro A2 y P Q k hA hl hk
    obtain ⟨k, rfl⟩ : ∃ m, k = m + 1 := ⟨k - 1, by omega⟩
    obtain rfl : A2 = [] := List.eq_nil_of_length_eq_zero hA
    have b2 : ¬ ((P.length + 0 : Nat) : Int) > (P.length : Int) := by omega
    simp only [slices_symMergeCmpFunc_api_Charge_c47.l3]
    rw [if_neg b2]
    rfl
  | succ n ih =>
    intro A2 y P Q k hA hl hk
    obtain ⟨k, rfl⟩ : ∃ m, k = m + 1 := ⟨k - 1, by omega⟩
    obtain ⟨B, z, rfl, hB⟩ := snoc_of hA
    have eD : P ++ ((B ++ [z]) ++ y :: Q) = (P ++ B) ++ z :: ([] ++ y :: Q) := by simp
    have el : (P ++ B).length = P.length + n := by rw [List.length_append, hB]
    have h0 : rd_T62 ((P ++ B) ++ z :: ([] ++ y :: Q)) ((P.length + n : Nat) : Int) = z := by rw [← el]; exact rdS_mid _ _ _
    have h1 : rd_T62 ((P ++ B) ++ z :: ([] ++ y :: Q)) ((P.length + n + 1 : Nat) : Int) = y := by
      have := rdS_mid2 (P ++ B) [] Q z y
      rw [el] at this
      exact this
    have hD : ((P ++ B) ++ z :: ([] ++ y :: Q)).length = P.length + n + 1 + 1 + Q.length := by simp; omega
    have b1 : ((P.length + n + 1 : Nat) : Int) > (P.length : Int) := by omega
    have b2 : P.length + n ≤ 100000 := by omega
    have b3 : 0 ≤ ((P.length + n : Nat) : Int) := by omega
    have b4 : ((P.length + n : Nat) : Int) < ((((P ++ B) ++ z :: ([] ++ y :: Q)).length : Nat) : Int) := by rw [hD]; omega
    have b5 : 0 ≤ ((P.length + n + 1 : Nat) : Int) := by omega
    have b6 : ((P.length + n + 1 : Nat) : Int) < ((((P ++ B) ++ z :: ([] ++ y :: Q)).length : Nat) : Int) := by rw [hD]; omega
    have g := ih B y P (z :: Q) k hB (by rw [List.length_cons]; omega) (by omega)
    have e := set_two' (P ++ B) [] Q z y
    rw [el] at e
    rw [eD, show P.length + (n + 1) = P.length + n + 1 by omega]
    simp only [slices_symMergeCmpFunc_api_Charge_c47.l3]
    rw [if_pos b1, wsub b2, if_pos b3, if_pos b4, if_pos b5, if_pos b6, h0, h1]
    have ex : P ++ (B ++ y :: (z :: Q)) = (P ++ B) ++ y :: ([] ++ z :: Q) := by simp
    rw [ex] at g
    refine Eq.trans (congrArg (fun D => slices_symMergeCmpFunc_api_Charge_c47.l3 k D (P.length : Int) ((P.length + n : Nat) : Int)) e) (g.trans ?_)
    simp
theorem srt_le {B : List S62} (h : srt B) {s t : Nat} (hst : s ≤ t) (ht : t < B.length) : (B[s]'(by omega)).f0 ≤ B[t].f0 := by
  rcases Nat.lt_or_ge s t with g | g
  · exact List.pairwise_iff_getElem.1 h s t (by omega) ht g
  · obtain rfl : s = t := by omega
    exact Int.le_refl _
theorem cut_at {B : List S62} {c : Nat} (h : c < B.length) : B = B.take c ++ B[c] :: B.drop (c + 1) := by
  rw [← List.drop_eq_getElem_cons h, List.take_append_drop]
theorem rd_B (P Q : List S62) (x : S62) {B : List S62} {c : Nat} (h : c < B.length) : rd_T62 (P ++ x :: (B ++ Q)) ((P.length + 1 + c : Nat) : Int) = B[c] := by
  have e := rdS_mid2 P (B.take c) (B.drop (c + 1) ++ Q) x B[c]
  rw [show (B.take c).length = c by rw [List.length_take]; omega] at e
  have eB : P ++ x :: (B.take c ++ B[c] :: (B.drop (c + 1) ++ Q)) = P ++ x :: (B ++ Q) := by
    have h2 : B.take c ++ B[c] :: (B.drop (c + 1) ++ Q) = B ++ Q := (List.append_assoc (B.take c) (B[c] :: B.drop (c + 1)) Q).symm.trans (congrArg (fun L => L ++ Q) (cut_at h).symm)
    rw [h2]
  rw [eB] at e
  exact e
theorem rd_A (P Q : List S62) {A : List S62} {c : Nat} (h : c < A.length) : rd_T62 (P ++ (A ++ Q)) ((P.length + c : Nat) : Int) = A[c] := by
  have e := rdS_mid (P ++ A.take c) (A.drop (c + 1) ++ Q) A[c]
  rw [show (P ++ A.take c).length = P.length + c by rw [List.length_append, List.length_take]; omega] at e
  have eB : (P ++ A.take c) ++ A[c] :: (A.drop (c + 1) ++ Q) = P ++ (A ++ Q) := by
    have h2 : A.take c ++ A[c] :: (A.drop (c + 1) ++ Q) = A ++ Q := (List.append_assoc (A.take c) (A[c] :: A.drop (c + 1)) Q).symm.trans (congrArg (fun L => L ++ Q) (cut_at h).symm)
    rw [List.append_assoc, h2]
  rw [eB] at e
  exact e
theorem sym_l0 : ∀ (d : Nat) (B : List S62) (x : S62) (P Q : List S62) (lo hi k : Nat), hi - lo ≤ d → lo ≤ hi → hi ≤ B.length → srt B → P.length + 1 + B.length + Q.length ≤ 1000 → d + B.length + 3 ≤ k →
    (∀ t (h : t < B.length), t < lo → B[t].f0 < x.f0) → (∀ t (h : t < B.length), hi ≤ t → x.f0 ≤ B[t].f0) →
    slices_symMergeCmpFunc_api_Charge_c47.l0 k (P ++ x :: (B ++ Q)) (P.length : Int) ((P.length + 1 + lo : Nat) : Int) ((P.length + 1 + hi : Nat) : Int) = some (P ++ (mrg [x] B ++ Q)) := by
  intro d
  induction d with
  | zero =>
    intro B x P Q lo hi k hd hlh hh hs hl hk h1 h2
    obtain ⟨k, rfl⟩ : ∃ m, k = m + 1 := ⟨k - 1, by omega⟩
    obtain rfl : lo = hi := by omega
    have b1 : ¬ ((P.length + 1 + lo : Nat) : Int) < ((P.length + 1 + lo : Nat) : Int) := by omega
    have ll : (B.take lo).length = lo := by rw [List.length_take]; omega
    have lr : (B.drop lo).length = B.length - lo := List.length_drop
    have g := sym_l1 (B.take lo) x P (B.drop lo ++ Q) k (by rw [ll, List.length_append, lr]; omega) (by rw [ll]; omega)
    rw [ll] at g
    have e : B.take lo ++ (B.drop lo ++ Q) = B ++ Q := by rw [← List.append_assoc, List.take_append_drop]
    rw [e] at g
    have em : mrg [x] B = B.take lo ++ x :: B.drop lo := by
      have := mrg_one (x := x) (B1 := B.take lo) (B2 := B.drop lo) (fun y hy => by
        obtain ⟨t, ht, rfl⟩ := List.mem_iff_getElem.1 hy
        rw [List.getElem_take]
        exact h1 t _ (by omega)) (fun y hy => by
        obtain ⟨t, ht, rfl⟩ := List.mem_iff_getElem.1 hy
        rw [List.getElem_drop]
        exact h2 _ _ (by omega))
      rw [List.take_append_drop] at this
      exact this
    simp only [slices_symMergeCmpFunc_api_Charge_c47.l0]
    rw [if_neg b1, g, em]
    simp
  | succ d ih =>
    intro B x P Q lo hi k hd hlh hh hs hl hk h1 h2
    by_cases c0 : lo = hi
    · exact ih B x P Q lo hi k (by omega) hlh hh hs hl (by omega) h1 h2
    · obtain ⟨k, rfl⟩ : ∃ m, k = m + 1 := ⟨k - 1, by omega⟩
      obtain ⟨c, hc⟩ : ∃ c, c = (lo + hi) / 2 := ⟨_, rfl⟩
      have hc1 : lo ≤ c := by omega
      have hc2 : c < hi := by omega
      have hcB : c < B.length := by omega
      have hD : (P ++ x :: (B ++ Q)).length = P.length + 1 + B.length + Q.length := by simp; omega
      have b1 : ((P.length + 1 + lo : Nat) : Int) < ((P.length + 1 + hi : Nat) : Int) := by omega
      have b2 : P.length + 1 + lo + (P.length + 1 + hi) ≤ 100000 := by omega
      have b3 : (P.length + 1 + lo + (P.length + 1 + hi)) / 2 = P.length + 1 + c := by omega
      have b4 : 0 ≤ ((P.length + 1 + c : Nat) : Int) := by omega
      have b5 : ((P.length + 1 + c : Nat) : Int) < (((P ++ x :: (B ++ Q)).length : Nat) : Int) := by rw [hD]; omega
      have b6 : 0 ≤ (P.length : Int) := by omega
      have b7 : (P.length : Int) < (((P ++ x :: (B ++ Q)).length : Nat) : Int) := by rw [hD]; omega
      have b8 : P.length + 1 + c ≤ 100000 := by omega
      have r0 : rd_T62 (P ++ x :: (B ++ Q)) (P.length : Int) = x := rdS_mid _ _ _
      have r1 := rd_B P Q x hcB
      obtain ⟨t, ht, hcmp⟩ := join1 B[c].f0 B[c].f1 x.f0 x.f1
      simp only [slices_symMergeCmpFunc_api_Charge_c47.l0]
      rw [if_pos b1, whalf b2, b3, if_pos b4, if_pos b5, if_pos b6, if_pos b7, r0, r1, ht]
      simp only [Option.bind_some]
      by_cases c1 : B[c].f0 < x.f0
      · rw [if_pos (hcmp.2 c1), wj1 b8]
        refine ih B x P Q (c + 1) hi k (by omega) (by omega) hh hs hl (by omega) (fun t ht htl => ?_) h2
        have := srt_le hs (show t ≤ c by omega) hcB
        omega
      · rw [if_neg (fun q => c1 (hcmp.1 q))]
        refine ih B x P Q lo c k (by omega) (by omega) (by omega) hs hl (by omega) h1 (fun t ht htl => ?_)
        have := srt_le hs htl ht
        omega
theorem sym_l2 : ∀ (d : Nat) (A : List S62) (y : S62) (P Q : List S62) (lo hi k : Nat), hi - lo ≤ d → lo ≤ hi → hi ≤ A.length → srt A → P.length + 1 + A.length + Q.length ≤ 1000 → d + A.length + 3 ≤ k →
    (∀ t (h : t < A.length), t < lo → A[t].f0 ≤ y.f0) → (∀ t (h : t < A.length), hi ≤ t → y.f0 < A[t].f0) →
    slices_symMergeCmpFunc_api_Charge_c47.l2 k (P ++ (A ++ y :: Q)) ((P.length + A.length : Nat) : Int) ((P.length + lo : Nat) : Int) ((P.length + hi : Nat) : Int) = some (P ++ (mrg A [y] ++ Q)) := by
  intro d
  induction d with
  | zero =>
    intro A y P Q lo hi k hd hlh hh hs hl hk h1 h2
    obtain ⟨k, rfl⟩ : ∃ m, k = m + 1 := ⟨k - 1, by omega⟩
    obtain rfl : lo = hi := by omega
    have b1 : ¬ ((P.length + lo : Nat) : Int) < ((P.length + lo : Nat) : Int) := by omega
    have ll : (P ++ A.take lo).length = P.length + lo := by rw [List.length_append, List.length_take]; omega
    have lr : (A.drop lo).length = A.length - lo := List.length_drop
    have g := sym_l3 (A.length - lo) (A.drop lo) y (P ++ A.take lo) Q k lr (by rw [ll]; omega) (by omega)
    rw [ll, show P.length + lo + (A.length - lo) = P.length + A.length by omega] at g
    have e : (P ++ A.take lo) ++ (A.drop lo ++ y :: Q) = P ++ (A ++ y :: Q) := by
      rw [List.append_assoc, ← List.append_assoc (A.take lo), List.take_append_drop]
    rw [e] at g
    have em : mrg A [y] = A.take lo ++ y :: A.drop lo := by
      have := mrg_one' (y := y) (A1 := A.take lo) (A2 := A.drop lo) (fun x hx => by
        obtain ⟨t, ht, rfl⟩ := List.mem_iff_getElem.1 hx
        rw [List.getElem_take]
        rw [List.length_take] at ht
        exact h1 t _ (by omega)) (fun x hx => by
        obtain ⟨t, ht, rfl⟩ := List.mem_iff_getElem.1 hx
        rw [List.getElem_drop]
        exact h2 _ _ (by omega))
      rw [List.take_append_drop] at this
      exact this
    simp only [slices_symMergeCmpFunc_api_Charge_c47.l2]
    rw [if_neg b1, g, em]
    simp
  | succ d ih =>
    intro A y P Q lo hi k hd hlh hh hs hl hk h1 h2
    by_cases c0 : lo = hi
    · exact ih A y P Q lo hi k (by omega) hlh hh hs hl (by omega) h1 h2
    · obtain ⟨k, rfl⟩ : ∃ m, k = m + 1 := ⟨k - 1, by omega⟩
      obtain ⟨c, hc⟩ : ∃ c, c = (lo + hi) / 2 := ⟨_, rfl⟩
      have hc1 : lo ≤ c := by omega
      have hc2 : c < hi := by omega
      have hcA : c < A.length := by omega
      have hD : (P ++ (A ++ y :: Q)).length = P.length + 1 + A.length + Q.length := by simp; omega
      have b1 : ((P.length + lo : Nat) : Int) < ((P.length + hi : Nat) : Int) := by omega
      have b2 : P.length + lo + (P.length + hi) ≤ 100000 := by omega
      have b3 : (P.length + lo + (P.length + hi)) / 2 = P.length + c := by omega
      have b4 : 0 ≤ ((P.length + c : Nat) : Int) := by omega
      have b5 : ((P.length + c : Nat) : Int) < (((P ++ (A ++ y :: Q)).length : Nat) : Int) := by rw [hD]; omega
      have b6 : 0 ≤ ((P.length + A.length : Nat) : Int) := by omega
      have b7 : ((P.length + A.length : Nat) : Int) < (((P ++ (A ++ y :: Q)).length : Nat) : Int) := by rw [hD]; omega
      have b8 : P.length + c ≤ 100000 := by omega
      have r0 : rd_T62 (P ++ (A ++ y :: Q)) ((P.length + A.length : Nat) : Int) = y := by
        have := rdS_mid (P ++ A) Q y
        rw [List.length_append, List.append_assoc] at this
        exact this
      have r1 := rd_A P (y :: Q) hcA
      obtain ⟨t, ht, hcmp⟩ := join1 y.f0 y.f1 A[c].f0 A[c].f1
      simp only [slices_symMergeCmpFunc_api_Charge_c47.l2]
      rw [if_pos b1, if_pos b6, if_pos b7, whalf b2, b3, if_pos b4, if_pos b5, r0, r1, ht]
      simp only [Option.bind_some]
      by_cases c1 : y.f0 < A[c].f0
      · rw [if_pos (hcmp.2 c1)]
        refine ih A y P Q lo c k (by omega) (by omega) (by omega) hs hl (by omega) h1 (fun t ht htl => ?_)
        have := srt_le hs htl ht
        omega
      · rw [if_neg (fun q => c1 (hcmp.1 q)), wj1 b8]
        refine ih A y P Q (c + 1) hi k (by omega) (by omega) hh hs hl (by omega) (fun t ht htl => ?_) h2
        have := srt_le hs (show t ≤ c by omega) hcA
        omega

theorem srt_part {A B : List S62} {s e : Nat} (hA : srt A) (hB : srt B) (he : e ≤ B.length) (hs : s ≤ A.length)
    (h1 : ∀ (a : s < A.length) (b : 0 < e), (B[e - 1]'(by omega)).f0 < A[s].f0) (h2 : ∀ (a : 0 < s) (b : e < B.length), (A[s - 1]'(by omega)).f0 ≤ B[e].f0) :
    mrg A B = mrg (A.take s) (B.take e) ++ mrg (A.drop s) (B.drop e) := by
  have g := mrg_split _ (A.take s) (B.take e) (A.drop s) (B.drop e) rfl (fun y hy x hx => by
    obtain ⟨i, hi, rfl⟩ := List.mem_iff_getElem.1 hy
    obtain ⟨j, hj, rfl⟩ := List.mem_iff_getElem.1 hx
    rw [List.getElem_take, List.getElem_drop]
    rw [List.length_take] at hi
    rw [List.length_drop] at hj
    have g1 := h1 (by omega) (by omega)
    have g2 := srt_le hB (show i ≤ e - 1 by omega) (by omega)
    have g3 := srt_le hA (show s ≤ s + j by omega) (by omega)
    omega) (fun x hx y hy => by
    obtain ⟨i, hi, rfl⟩ := List.mem_iff_getElem.1 hx
    obtain ⟨j, hj, rfl⟩ := List.mem_iff_getElem.1 hy
    rw [List.getElem_take, List.getElem_drop]
    rw [List.length_take] at hi
    rw [List.length_drop] at hj
    have g1 := h2 (by omega) (by omega)
    have g2 := srt_le hA (show i ≤ s - 1 by omega) (by omega)
    have g3 := srt_le hB (show e ≤ e + j by omega) (by omega)
    omega)
  rw [List.take_append_drop, List.take_append_drop] at g
  exact g
theorem sym_l4 : ∀ (d : Nat) (A B P Q : List S62) (lo hi h K0 k : Nat) (b c : Int) (r : List S62), hi - lo ≤ d → lo ≤ hi → hi ≤ A.length → hi ≤ h → h ≤ lo + B.length → h ≤ A.length + B.length → 0 < A.length → P.length + A.length + B.length + Q.length ≤ 1000 → K0 + d + 1 ≤ k →
    (∀ (a1 : 0 < lo) (a2 : h - lo < B.length) (a3 : lo - 1 < A.length), A[lo - 1].f0 ≤ B[h - lo].f0) → (∀ (a1 : hi < A.length) (a2 : hi < h) (a3 : h - 1 - hi < B.length), B[h - 1 - hi].f0 < A[hi].f0) →
    (∀ (s K : Nat), K0 ≤ K → lo ≤ s → s ≤ hi → (∀ (a1 : s < A.length) (a2 : 0 < h - s) (a3 : h - s ≤ B.length), (B[h - s - 1]'(by omega)).f0 < A[s].f0) → (∀ (a1 : 0 < s) (a2 : h - s < B.length) (a3 : s ≤ A.length), (A[s - 1]'(by omega)).f0 ≤ B[h - s].f0) →
      (if ((P.length + s : Nat) : Int) < ((P.length + A.length : Nat) : Int) then slices_symMergeCmpFunc_api_Charge_c47.j6 K (P ++ (A ++ (B ++ Q))) (P.length : Int) ((P.length + A.length : Nat) : Int) b c ((P.length + h : Nat) : Int) ((P.length + s : Nat) : Int) ((P.length + h + (A.length - s) : Nat) : Int) (decide (((P.length + A.length : Nat) : Int) < ((P.length + h + (A.length - s) : Nat) : Int))) else slices_symMergeCmpFunc_api_Charge_c47.j6 K (P ++ (A ++ (B ++ Q))) (P.length : Int) ((P.length + A.length : Nat) : Int) b c ((P.length + h : Nat) : Int) ((P.length + s : Nat) : Int) ((P.length + h + (A.length - s) : Nat) : Int) false) = some r) →
    slices_symMergeCmpFunc_api_Charge_c47.l4 k (P ++ (A ++ (B ++ Q))) (P.length : Int) ((P.length + A.length : Nat) : Int) b c ((P.length + h : Nat) : Int) ((P.length + h + (P.length + A.length) : Nat) : Int) ((P.length + lo : Nat) : Int) ((P.length + hi : Nat) : Int) ((P.length + h + (P.length + A.length) - 1 : Nat) : Int) = some r := by
  intro d
  induction d with
  | zero =>
    intro A B P Q lo hi h K0 k b c r hd hlh h1 h2 h3 h4 h0 hl hk g1 g2 g3
    obtain ⟨k, rfl⟩ : ∃ m, k = m + 1 := ⟨k - 1, by omega⟩
    obtain rfl : lo = hi := by omega
    have b1 : ¬ ((P.length + lo : Nat) : Int) < ((P.length + lo : Nat) : Int) := by omega
    have b2 : P.length + lo ≤ P.length + h + (P.length + A.length) := by omega
    have b3 : P.length + h + (P.length + A.length) ≤ 100000 := by omega
    have e3 : P.length + h + (P.length + A.length) - (P.length + lo) = P.length + h + (A.length - lo) := by omega
    have g := g3 lo k (by omega) (Nat.le_refl _) (Nat.le_refl _) (fun a1 a2 a3 => by
      have := g2 a1 (by omega) (by omega)
      simpa only [show h - lo - 1 = h - 1 - lo by omega] using this) (fun a1 a2 a3 => g1 a1 a2 (by omega))
    simp only [slices_symMergeCmpFunc_api_Charge_c47.l4]
    rw [if_neg b1, wsb b2 b3, e3]
    exact g
  | succ d ih =>
    intro A B P Q lo hi h K0 k b c r hd hlh h1 h2 h3 h4 h0 hl hk g1 g2 g3
    by_cases c0 : lo = hi
    · exact ih A B P Q lo hi h K0 k b c r (by omega) hlh h1 h2 h3 h4 h0 hl (by omega) g1 g2 g3
    · obtain ⟨k, rfl⟩ : ∃ m, k = m + 1 := ⟨k - 1, by omega⟩
      obtain ⟨u, hu⟩ : ∃ u, u = (lo + hi) / 2 := ⟨_, rfl⟩
      have hu1 : lo ≤ u := by omega
      have hu2 : u < hi := by omega
      have huA : u < A.length := by omega
      have hvB : h - 1 - u < B.length := by omega
      have hD : (P ++ (A ++ (B ++ Q))).length = P.length + A.length + B.length + Q.length := by simp; omega
      have b1 : ((P.length + lo : Nat) : Int) < ((P.length + hi : Nat) : Int) := by omega
      have b2 : P.length + lo + (P.length + hi) ≤ 100000 := by omega
      have b3 : (P.length + lo + (P.length + hi)) / 2 = P.length + u := by omega
      have b4 : P.length + u ≤ P.length + h + (P.length + A.length) - 1 := by omega
      have b5 : P.length + h + (P.length + A.length) - 1 ≤ 100000 := by omega
      have e5 : P.length + h + (P.length + A.length) - 1 - (P.length + u) = P.length + A.length + (h - 1 - u) := by omega
      have b6 : 0 ≤ ((P.length + A.length + (h - 1 - u) : Nat) : Int) := by omega
      have b7 : ((P.length + A.length + (h - 1 - u) : Nat) : Int) < (((P ++ (A ++ (B ++ Q))).length : Nat) : Int) := by rw [hD]; omega
      have b8 : 0 ≤ ((P.length + u : Nat) : Int) := by omega
      have b9 : ((P.length + u : Nat) : Int) < (((P ++ (A ++ (B ++ Q))).length : Nat) : Int) := by rw [hD]; omega
      have b10 : P.length + u ≤ 100000 := by omega
      have r0 := rd_A P (B ++ Q) huA
      have r1 : rd_T62 (P ++ (A ++ (B ++ Q))) ((P.length + A.length + (h - 1 - u) : Nat) : Int) = B[h - 1 - u] := by
        have := rd_A (P ++ A) Q hvB
        rw [List.length_append, List.append_assoc] at this
        exact this
      obtain ⟨t, ht, hcmp⟩ := join1 B[h - 1 - u].f0 B[h - 1 - u].f1 A[u].f0 A[u].f1
      simp only [slices_symMergeCmpFunc_api_Charge_c47.l4]
      rw [if_pos b1, whalf b2, b3, wsb b4 b5, e5, if_pos b6, if_pos b7, if_pos b8, if_pos b9, r1, r0, ht]
      simp only [Option.bind_some]
      by_cases c1 : B[h - 1 - u].f0 < A[u].f0
      · rw [if_pos (hcmp.2 c1)]
        exact ih A B P Q lo u h K0 k b c r (by omega) (by omega) (by omega) (by omega) h3 h4 h0 hl (by omega) g1 (fun _ _ _ => c1) (fun s K hK hs1 hs2 => g3 s K hK hs1 (by omega))
      · rw [if_neg (fun q => c1 (hcmp.1 q)), wj1 b10]
        refine ih A B P Q (u + 1) hi h K0 k b c r (by omega) (by omega) h1 h2 (by omega) h4 h0 hl (by omega) (fun a1 a2 a3 => ?_) g2 (fun s K hK hs1 hs2 => g3 s K hK (by omega) hs2)
        have e1 : u + 1 - 1 = u := by omega
        have e2 : h - (u + 1) = h - 1 - u := by omega
        simp only [e1, e2]
        omega
theorem sym_j8 (N : Nat) (IH : ∀ (A B P Q : List S62) (c : Int) (k : Nat), A.length + B.length ≤ N → 0 < A.length → 0 < B.length → srt A → srt B → P.length + A.length + B.length + Q.length ≤ 1000 → 2000 * (N + 1) ≤ k → slices_symMergeCmpFunc_api_Charge_c47.f k (P ++ (A ++ (B ++ Q))) (P.length : Int) ((P.length + A.length : Nat) : Int) ((P.length + A.length + B.length : Nat) : Int) c = some (P ++ (mrg A B ++ Q)))
    (A1 A2 B1 B2 P Q : List S62) (c : Int) (k : Nat) (s1 : srt A1) (s2 : srt A2) (s3 : srt B1) (s4 : srt B2) (n1 : A1.length + B1.length ≤ N) (n2 : A2.length + B2.length ≤ N)
    (hl : P.length + (A1.length + A2.length) + (B1.length + B2.length) + Q.length ≤ 1000) (hk : 2000 * (N + 1) + 2 ≤ k) :
    slices_symMergeCmpFunc_api_Charge_c47.j7 k (P ++ (A1 ++ (B1 ++ (A2 ++ (B2 ++ Q))))) (P.length : Int) ((P.length + (A1.length + A2.length) + (B1.length + B2.length) : Nat) : Int) c ((P.length + A1.length + B1.length : Nat) : Int) ((P.length + A1.length : Nat) : Int) ((P.length + A1.length + B1.length + A2.length : Nat) : Int) = some (P ++ (mrg A1 B1 ++ (mrg A2 B2 ++ Q))) := by
  obtain ⟨k, rfl⟩ : ∃ m, k = m + 2 := ⟨k - 2, by omega⟩
  have hk' : 2000 * (N + 1) ≤ k := by omega
  have hm : (mrg A1 B1).length = A1.length + B1.length := mrg_len _ _ _ rfl
  have tail : (if ((P.length + A1.length + B1.length : Nat) : Int) < ((P.length + A1.length + B1.length + A2.length : Nat) : Int) then (if ((P.length + A1.length + B1.length + A2.length : Nat) : Int) < ((P.length + (A1.length + A2.length) + (B1.length + B2.length) : Nat) : Int) then ((slices_symMergeCmpFunc_api_Charge_c47.f k (P ++ (mrg A1 B1 ++ (A2 ++ (B2 ++ Q)))) ((P.length + A1.length + B1.length : Nat) : Int) ((P.length + A1.length + B1.length + A2.length : Nat) : Int) ((P.length + (A1.length + A2.length) + (B1.length + B2.length) : Nat) : Int) c).bind fun t550 => (some t550)) else (some (P ++ (mrg A1 B1 ++ (A2 ++ (B2 ++ Q)))))) else (some (P ++ (mrg A1 B1 ++ (A2 ++ (B2 ++ Q)))))) = some (P ++ (mrg A1 B1 ++ (mrg A2 B2 ++ Q))) := by
    by_cases z1 : 0 < A2.length
    · by_cases z2 : 0 < B2.length
      · have b1 : ((P.length + A1.length + B1.length : Nat) : Int) < ((P.length + A1.length + B1.length + A2.length : Nat) : Int) := by omega
        have b2 : ((P.length + A1.length + B1.length + A2.length : Nat) : Int) < ((P.length + (A1.length + A2.length) + (B1.length + B2.length) : Nat) : Int) := by omega
        have lp : (P ++ mrg A1 B1).length = P.length + A1.length + B1.length := by rw [List.length_append, hm]; omega
        have g := IH A2 B2 (P ++ mrg A1 B1) Q c k n2 z1 z2 s2 s4 (by rw [lp]; omega) hk'
        have e1 : P.length + A1.length + B1.length + A2.length + B2.length = P.length + (A1.length + A2.length) + (B1.length + B2.length) := by omega
        rw [lp, e1, List.append_assoc, List.append_assoc] at g
        rw [if_pos b1, if_pos b2, g]
        rfl
      · have b2 : ¬ ((P.length + A1.length + B1.length + A2.length : Nat) : Int) < ((P.length + (A1.length + A2.length) + (B1.length + B2.length) : Nat) : Int) := by omega
        obtain rfl : B2 = [] := List.eq_nil_of_length_eq_zero (by omega)
        rw [if_neg b2, mrg_nil]
        split <;> rfl
    · have b1 : ¬ ((P.length + A1.length + B1.length : Nat) : Int) < ((P.length + A1.length + B1.length + A2.length : Nat) : Int) := by omega
      obtain rfl : A2 = [] := List.eq_nil_of_length_eq_zero (by omega)
      rw [if_neg b1, nil_mrg]
      rfl
  simp only [slices_symMergeCmpFunc_api_Charge_c47.j7, slices_symMergeCmpFunc_api_Charge_c47.j8]
  by_cases z1 : 0 < A1.length
  · have b1 : (P.length : Int) < ((P.length + A1.length : Nat) : Int) := by omega
    rw [if_pos b1]
    by_cases z2 : 0 < B1.length
    · have b2 : ((P.length + A1.length : Nat) : Int) < ((P.length + A1.length + B1.length : Nat) : Int) := by omega
      have g := IH A1 B1 P (A2 ++ (B2 ++ Q)) c k n1 z1 z2 s1 s3 (by rw [List.length_append, List.length_append]; omega) hk'
      rw [decide_eq_true b2, if_pos rfl, g]
      exact tail
    · have b2 : ¬ ((P.length + A1.length : Nat) : Int) < ((P.length + A1.length + B1.length : Nat) : Int) := by omega
      obtain rfl : B1 = [] := List.eq_nil_of_length_eq_zero (by omega)
      rw [decide_eq_false b2, if_neg (by decide)]
      rw [mrg_nil] at tail ⊢
      exact tail
  · have b1 : ¬ (P.length : Int) < ((P.length + A1.length : Nat) : Int) := by omega
    obtain rfl : A1 = [] := List.eq_nil_of_length_eq_zero (by omega)
    rw [if_neg b1, if_neg (by decide)]
    rw [nil_mrg] at tail ⊢
    exact tail
theorem sym_j6 (N : Nat) (IH : ∀ (A B P Q : List S62) (c : Int) (k : Nat), A.length + B.length ≤ N → 0 < A.length → 0 < B.length → srt A → srt B → P.length + A.length + B.length + Q.length ≤ 1000 → 2000 * (N + 1) ≤ k → slices_symMergeCmpFunc_api_Charge_c47.f k (P ++ (A ++ (B ++ Q))) (P.length : Int) ((P.length + A.length : Nat) : Int) ((P.length + A.length + B.length : Nat) : Int) c = some (P ++ (mrg A B ++ Q)))
    (A1 A2 B1 B2 P Q : List S62) (c : Int) (k : Nat) (s1 : srt A1) (s2 : srt A2) (s3 : srt B1) (s4 : srt B2) (n1 : A1.length + B1.length ≤ N) (n2 : A2.length + B2.length ≤ N)
    (hl : P.length + (A1.length + A2.length) + (B1.length + B2.length) + Q.length ≤ 1000) (hk : 2000 * (N + 1) + 900 ≤ k) :
    (if ((P.length + A1.length : Nat) : Int) < ((P.length + (A1.length + A2.length) : Nat) : Int) then slices_symMergeCmpFunc_api_Charge_c47.j6 k (P ++ ((A1 ++ A2) ++ ((B1 ++ B2) ++ Q))) (P.length : Int) ((P.length + (A1.length + A2.length) : Nat) : Int) ((P.length + (A1.length + A2.length) + (B1.length + B2.length) : Nat) : Int) c ((P.length + A1.length + B1.length : Nat) : Int) ((P.length + A1.length : Nat) : Int) ((P.length + A1.length + B1.length + A2.length : Nat) : Int) (decide (((P.length + (A1.length + A2.length) : Nat) : Int) < ((P.length + A1.length + B1.length + A2.length : Nat) : Int))) else slices_symMergeCmpFunc_api_Charge_c47.j6 k (P ++ ((A1 ++ A2) ++ ((B1 ++ B2) ++ Q))) (P.length : Int) ((P.length + (A1.length + A2.length) : Nat) : Int) ((P.length + (A1.length + A2.length) + (B1.length + B2.length) : Nat) : Int) c ((P.length + A1.length + B1.length : Nat) : Int) ((P.length + A1.length : Nat) : Int) ((P.length + A1.length + B1.length + A2.length : Nat) : Int) false) = some (P ++ (mrg A1 B1 ++ (mrg A2 B2 ++ Q))) := by
  obtain ⟨k, rfl⟩ : ∃ m, k = m + 1 := ⟨k - 1, by omega⟩
  have g := sym_j8 N IH A1 A2 B1 B2 P Q c k s1 s2 s3 s4 n1 n2 hl (by omega)
  have eD : P ++ ((A1 ++ A2) ++ ((B1 ++ B2) ++ Q)) = P ++ (A1 ++ (A2 ++ (B1 ++ (B2 ++ Q)))) := by simp
  rw [eD]
  by_cases z1 : 0 < A2.length
  · have b1 : ((P.length + A1.length : Nat) : Int) < ((P.length + (A1.length + A2.length) : Nat) : Int) := by omega
    rw [if_pos b1]
    by_cases z2 : 0 < B1.length
    · have b2 : ((P.length + (A1.length + A2.length) : Nat) : Int) < ((P.length + A1.length + B1.length + A2.length : Nat) : Int) := by omega
      have lp : (P ++ A1).length = P.length + A1.length := List.length_append
      have r := rot_f (P ++ A1) A2 B1 (B2 ++ Q) c k z1 z2 (by rw [lp, List.length_append]; omega) (by omega)
      have e1 : P.length + A1.length + A2.length = P.length + (A1.length + A2.length) := by omega
      have e2 : P.length + (A1.length + A2.length) + B1.length = P.length + A1.length + B1.length + A2.length := by omega
      rw [lp, e1, e2, List.append_assoc, List.append_assoc] at r
      rw [decide_eq_true b2]
      simp only [slices_symMergeCmpFunc_api_Charge_c47.j6, ↓reduceIte]
      rw [r]
      exact g
    · have b2 : ¬ ((P.length + (A1.length + A2.length) : Nat) : Int) < ((P.length + A1.length + B1.length + A2.length : Nat) : Int) := by omega
      obtain rfl : B1 = [] := List.eq_nil_of_length_eq_zero (by omega)
      rw [decide_eq_false b2]
      simp only [slices_symMergeCmpFunc_api_Charge_c47.j6]
      rw [if_neg (by decide)]
      exact g
  · have b1 : ¬ ((P.length + A1.length : Nat) : Int) < ((P.length + (A1.length + A2.length) : Nat) : Int) := by omega
    obtain rfl : A2 = [] := List.eq_nil_of_length_eq_zero (by omega)
    rw [if_neg b1]
    simp only [slices_symMergeCmpFunc_api_Charge_c47.j6]
    rw [if_neg (by decide)]
    exact g
theorem wpred {n : Nat} (h : 1 ≤ n) (h2 : n ≤ 100000) : wrap64 ((n : Int) - 1) = ((n - 1 : Nat) : Int) := by unfold wrap64; omega
theorem srt_take {A : List S62} (h : srt A) (s : Nat) : srt (A.take s) := List.Pairwise.sublist (List.take_sublist _ _) h
theorem srt_drop {A : List S62} (h : srt A) (s : Nat) : srt (A.drop s) := List.Pairwise.sublist (List.drop_sublist _ _) h
theorem sym_f : ∀ (N : Nat) (A B P Q : List S62) (c : Int) (k : Nat), A.length + B.length ≤ N → 0 < A.length → 0 < B.length → srt A → srt B → P.length + A.length + B.length + Q.length ≤ 1000 → 2000 * (N + 1) ≤ k →
    slices_symMergeCmpFunc_api_Charge_c47.f k (P ++ (A ++ (B ++ Q))) (P.length : Int) ((P.length + A.length : Nat) : Int) ((P.length + A.length + B.length : Nat) : Int) c = some (P ++ (mrg A B ++ Q)) := by
  intro N
  induction N with
  | zero => intro A B P Q c k h h1; omega
  | succ N IH =>
    intro A B P Q c k hN h1 h2 sA sB hl hk
    obtain ⟨k, rfl⟩ : ∃ m, k = m + 3 := ⟨k - 3, by omega⟩
    have b1 : P.length ≤ P.length + A.length := by omega
    have b2 : P.length + A.length ≤ 100000 := by omega
    have e1 : P.length + A.length - P.length = A.length := by omega
    have b3 : P.length + A.length ≤ P.length + A.length + B.length := by omega
    have b4 : P.length + A.length + B.length ≤ 100000 := by omega
    have e2 : P.length + A.length + B.length - (P.length + A.length) = B.length := by omega
    by_cases c1 : A.length = 1
    · have c1' : (A.length : Int) = 1 := by omega
      obtain ⟨x, rfl⟩ := List.length_eq_one_iff.1 c1
      have g := sym_l0 B.length B x P Q 0 B.length (k + 2) (by omega) (by omega) (Nat.le_refl _) sB (by simp at hl; omega) (by omega) (fun t ht h => by omega) (fun t ht h => by omega)
      simp only [slices_symMergeCmpFunc_api_Charge_c47.f]
      rw [wsb b1 b2, e1, if_pos c1']
      exact g
    · have c1' : ¬ (A.length : Int) = 1 := by omega
      by_cases c2 : B.length = 1
      · have c2' : (B.length : Int) = 1 := by omega
        obtain ⟨y, rfl⟩ := List.length_eq_one_iff.1 c2
        have g := sym_l2 A.length A y P Q 0 A.length (k + 2) (by omega) (by omega) (Nat.le_refl _) sA (by simp at hl; omega) (by omega) (fun t ht h => by omega) (fun t ht h => by omega)
        simp only [slices_symMergeCmpFunc_api_Charge_c47.f]
        rw [wsb b1 b2, e1, if_neg c1', wsb b3 b4, e2, if_pos c2']
        exact g
      · have c2' : ¬ (B.length : Int) = 1 := by omega
        obtain ⟨h, hh⟩ : ∃ h, h = (A.length + B.length) / 2 := ⟨_, rfl⟩
        have b5 : P.length + (P.length + A.length + B.length) ≤ 100000 := by omega
        have e5 : (P.length + (P.length + A.length + B.length)) / 2 = P.length + h := by omega
        have b6 : P.length + h + (P.length + A.length) ≤ 100000 := by omega
        have b7 : 1 ≤ P.length + h + (P.length + A.length) := by omega
        have hh1 : h ≤ N := by omega
        have hh2 : A.length + B.length - h ≤ N := by omega
        have fin : ∀ (s K : Nat), 2000 * (N + 1) + 900 ≤ K → s ≤ A.length → s ≤ h → h - s ≤ B.length → (∀ (a1 : s < A.length) (a2 : 0 < h - s) (a3 : h - s ≤ B.length), (B[h - s - 1]'(by omega)).f0 < A[s].f0) → (∀ (a1 : 0 < s) (a2 : h - s < B.length) (a3 : s ≤ A.length), (A[s - 1]'(by omega)).f0 ≤ B[h - s].f0) →
            (if ((P.length + s : Nat) : Int) < ((P.length + A.length : Nat) : Int) then slices_symMergeCmpFunc_api_Charge_c47.j6 K (P ++ (A ++ (B ++ Q))) (P.length : Int) ((P.length + A.length : Nat) : Int) ((P.length + A.length + B.length : Nat) : Int) c ((P.length + h : Nat) : Int) ((P.length + s : Nat) : Int) ((P.length + h + (A.length - s) : Nat) : Int) (decide (((P.length + A.length : Nat) : Int) < ((P.length + h + (A.length - s) : Nat) : Int))) else slices_symMergeCmpFunc_api_Charge_c47.j6 K (P ++ (A ++ (B ++ Q))) (P.length : Int) ((P.length + A.length : Nat) : Int) ((P.length + A.length + B.length : Nat) : Int) c ((P.length + h : Nat) : Int) ((P.length + s : Nat) : Int) ((P.length + h + (A.length - s) : Nat) : Int) false) = some (P ++ (mrg A B ++ Q)) := by
          intro s K hK q1 q2 q3 g1 g2
          have l1 : (A.take s).length = s := by rw [List.length_take]; omega
          have l2 : (A.drop s).length = A.length - s := List.length_drop
          have l3 : (B.take (h - s)).length = h - s := by rw [List.length_take]; omega
          have l4 : (B.drop (h - s)).length = B.length - (h - s) := List.length_drop
          have g := sym_j6 N IH (A.take s) (A.drop s) (B.take (h - s)) (B.drop (h - s)) P Q c K (srt_take sA s) (srt_drop sA s) (srt_take sB _) (srt_drop sB _) (by omega) (by omega) (by omega) hK
          rw [List.take_append_drop, List.take_append_drop, l1, l2, l3, l4, show s + (A.length - s) = A.length by omega, show h - s + (B.length - (h - s)) = B.length by omega, show P.length + s + (h - s) = P.length + h by omega] at g
          rw [g, srt_part (s := s) (e := h - s) sA sB q3 q1 (fun a b => g1 a b q3) (fun a b => g2 a b q1)]
          simp
        by_cases c3 : A.length > h
        · have c3' : ((P.length + A.length : Nat) : Int) > ((P.length + h : Nat) : Int) := by omega
          have b8 : P.length + A.length + B.length ≤ P.length + h + (P.length + A.length) := by omega
          have e8 : P.length + h + (P.length + A.length) - (P.length + A.length + B.length) = P.length + (h - B.length) := by omega
          have g := sym_l4 A.length A B P Q (h - B.length) h h (2000 * (N + 1) + 900) (k + 1) ((P.length + A.length + B.length : Nat) : Int) c (P ++ (mrg A B ++ Q)) (by omega) (by omega) (by omega) (by omega) (by omega) (by omega) h1 hl (by omega) (fun a1 a2 a3 => by omega) (fun a1 a2 a3 => by omega) (fun s K hK hs1 hs2 => fin s K hK (by omega) hs2 (by omega))
          simp only [slices_symMergeCmpFunc_api_Charge_c47.f, slices_symMergeCmpFunc_api_Charge_c47.j4]
          rw [wsb b1 b2, e1, if_neg c1', wsb b3 b4, e2, if_neg c2', whalf b5, e5, if_pos c3', wadd b6, wpred b7 b6, wsb b8 b6, e8]
          exact g
        · have c3' : ¬ ((P.length + A.length : Nat) : Int) > ((P.length + h : Nat) : Int) := by omega
          have g := sym_l4 A.length A B P Q 0 A.length h (2000 * (N + 1) + 900) (k + 1) ((P.length + A.length + B.length : Nat) : Int) c (P ++ (mrg A B ++ Q)) (by omega) (by omega) (by omega) (by omega) (by omega) (by omega) h1 hl (by omega) (fun a1 a2 a3 => by omega) (fun a1 a2 a3 => by omega) (fun s K hK hs1 hs2 => fin s K hK (by omega) (by omega) (by omega))
          simp only [slices_symMergeCmpFunc_api_Charge_c47.f, slices_symMergeCmpFunc_api_Charge_c47.j4]
          rw [wsb b1 b2, e1, if_neg c1', wsb b3 b4, e2, if_neg c2', whalf b5, e5, if_neg c3', wadd b6, wpred b7 b6]
          exact g
theorem ins_f2 {L : List S62} (P A Q : List S62) (a b c : Int) (k : Nat) (eL : L = P ++ (A ++ Q)) (ha : a = (P.length : Int)) (hb : b = ((P.length + A.length : Nat) : Int)) (hl : P.length + A.length + Q.length ≤ 60) (hk : 100000 ≤ k) : slices_insertionSortCmpFunc_api_Charge_c47.f k L a b c = some (P ++ (ist A ++ Q)) := by
  subst eL ha hb
  exact ins_f A P Q c k (by omega) (by omega)
theorem sym_f2 {L : List S62} (P A B Q : List S62) (a m b c : Int) (k : Nat) (eL : L = P ++ (A ++ (B ++ Q))) (ha : a = (P.length : Int)) (hm : m = ((P.length + A.length : Nat) : Int)) (hb : b = ((P.length + A.length + B.length : Nat) : Int)) (h1 : 0 < A.length) (h2 : 0 < B.length) (s1 : srt A) (s2 : srt B) (hl : P.length + A.length + B.length + Q.length ≤ 60) (hk : 200000 ≤ k) : slices_symMergeCmpFunc_api_Charge_c47.f k L a m b c = some (P ++ (mrg A B ++ Q)) := by
  subst eL ha hm hb
  exact sym_f 60 A B P Q c k (by omega) h1 h2 s1 s2 (by omega) (by omega)
theorem stb_end (L : List S62) (n c x : Int) (k : Nat) (h : n ≤ x) : slices_stableCmpFunc_api_Charge_c47.l1 (k + 1) L n c x = some L := by
  simp only [slices_stableCmpFunc_api_Charge_c47.l1]
  rw [if_neg (by omega)]
theorem w_20_20 : wrap64 ((20 : Int) + 20) = 40 := by unfold wrap64; omega
theorem w_40_20 : wrap64 ((40 : Int) + 20) = 60 := by unfold wrap64; omega
theorem w_60_20 : wrap64 ((60 : Int) + 20) = 80 := by unfold wrap64; omega
theorem w_0_20 : wrap64 ((0 : Int) + 20) = 20 := by unfold wrap64; omega
theorem w_0_40 : wrap64 ((0 : Int) + 40) = 40 := by unfold wrap64; omega
theorem w_2_20 : wrap64 (2 * (20 : Int)) = 40 := by unfold wrap64; omega
theorem w_2_40 : wrap64 (2 * (40 : Int)) = 80 := by unfold wrap64; omega
theorem w_20_2 : wrap64 ((20 : Int) * 2) = 40 := by unfold wrap64; omega
theorem w_40_2 : wrap64 ((40 : Int) * 2) = 80 := by unfold wrap64; omega
theorem w_40_40 : wrap64 ((40 : Int) + 40) = 80 := by unfold wrap64; omega
/-- Merging blocks of 40 and what is behind them. -/
theorem stb_40 (A B : List S62) (n c : Int) (k : Nat) (hA : A.length = 40) (hn : n = ((A.length + B.length : Nat) : Int)) (hl : A.length + B.length ≤ 60) (s1 : srt A) (s2 : srt B) (hk : 200010 ≤ k) : slices_stableCmpFunc_api_Charge_c47.l1 k (A ++ B) n c 40 = some (mrg A B) := by
  obtain ⟨k, rfl⟩ : ∃ m, k = m + 3 := ⟨k - 3, by omega⟩
  by_cases z : B.length = 0
  · obtain rfl := List.eq_nil_of_length_eq_zero z
    rw [stb_end _ _ _ _ _ (by omega), mrg_nil, List.append_nil]
  · have b1 : (40 : Int) < n := by omega
    have b2 : ¬ (80 : Int) ≤ n := by omega
    have g := sym_f2 (L := A ++ B) [] A B [] 0 40 n c (k + 1) (by simp) (by simp) (by simp; omega) (by simp; omega) (by omega) (by omega) s1 s2 (by simp; omega) (by omega)
    rw [List.append_nil, List.nil_append] at g
    show slices_stableCmpFunc_api_Charge_c47.l1 (k + 2 + 1) _ _ _ _ = _
    simp only [slices_stableCmpFunc_api_Charge_c47.l1]
    rw [if_pos b1]
    show slices_stableCmpFunc_api_Charge_c47.l2 (k + 1 + 1) _ _ _ _ _ _ = _
    simp only [slices_stableCmpFunc_api_Charge_c47.l2]
    rw [w_2_40, if_neg b2, w_0_40, if_pos b1, g]
    simp only [Option.bind_some]
    rw [w_40_2]
    exact stb_end _ _ _ _ _ (by omega)
theorem stb_f (L : List S62) (c : Int) (k : Nat) (hl : L.length ≤ 60) (hk : 300000 ≤ k) : slices_stableCmpFunc_api_Charge_c47.f k L (L.length : Int) c = some (ist L) := by
  obtain ⟨k, rfl⟩ : ∃ m, k = m + 10 := ⟨k - 10, by omega⟩
  unfold slices_stableCmpFunc_api_Charge_c47.f
  by_cases c1 : L.length < 20
  · have b1 : ¬ (20 : Int) ≤ (L.length : Int) := by omega
    have g := ins_f2 (L := L) [] L [] 0 (L.length : Int) c (k + 9) (by simp) (by simp) (by simp) (by simp; omega) (by omega)
    rw [List.append_nil, List.nil_append] at g
    show slices_stableCmpFunc_api_Charge_c47.l0 (k + 9 + 1) _ _ _ _ _ _ = _
    simp only [slices_stableCmpFunc_api_Charge_c47.l0]
    rw [if_neg b1, g]
    simp only [Option.bind_some]
    exact stb_end _ _ _ _ (k + 8) (by omega)
  · obtain ⟨A, M, rfl, hA⟩ : ∃ A M, L = A ++ M ∧ A.length = 20 := ⟨L.take 20, L.drop 20, (List.take_append_drop _ _).symm, by rw [List.length_take]; omega⟩
    rw [List.length_append] at hl c1
    have b1 : (20 : Int) ≤ ((A ++ M).length : Int) := by rw [List.length_append]; omega
    have iA : (ist A).length = 20 := by rw [ist_len, hA]
    have g1 := ins_f2 (L := A ++ M) [] A M 0 20 c (k + 9) (by simp) (by simp) (by simp; omega) (by simp; omega) (by omega)
    rw [List.nil_append] at g1
    show slices_stableCmpFunc_api_Charge_c47.l0 (k + 9 + 1) _ _ _ _ _ _ = _
    simp only [slices_stableCmpFunc_api_Charge_c47.l0]
    rw [if_pos b1, g1]
    simp only [Option.bind_some]
    rw [w_20_20]
    by_cases c2 : M.length < 20
    · have b2 : ¬ (40 : Int) ≤ ((A ++ M).length : Int) := by rw [List.length_append]; omega
      have g2 := ins_f2 (L := ist A ++ M) (ist A) M [] 20 ((A ++ M).length : Int) c (k + 8) (by simp) (by omega) (by rw [List.length_append]; omega) (by simp; omega) (by omega)
      rw [List.append_nil] at g2
      show slices_stableCmpFunc_api_Charge_c47.l0 (k + 8 + 1) _ _ _ _ _ _ = _
      simp only [slices_stableCmpFunc_api_Charge_c47.l0]
      rw [if_neg b2, g2]
      simp only [Option.bind_some]
      rw [ist_append]
      by_cases z : M.length = 0
      · obtain rfl := List.eq_nil_of_length_eq_zero z
        have e : ist ([] : List S62) = [] := rfl
        rw [e, mrg_nil, List.append_nil]
        exact stb_end _ _ _ _ (k + 7) (by rw [List.length_append]; omega)
      · have b3 : (20 : Int) < ((A ++ M).length : Int) := by rw [List.length_append]; omega
        have iM : (ist M).length = M.length := ist_len M
        have g3 := sym_f2 (L := ist A ++ ist M) [] (ist A) (ist M) [] 0 20 ((A ++ M).length : Int) c (k + 6) (by simp) (by simp) (by simp; omega) (by simp; omega) (by omega) (by omega) (ist_srt A) (ist_srt M) (by simp; omega) (by omega)
        rw [List.append_nil, List.nil_append] at g3
        show slices_stableCmpFunc_api_Charge_c47.l1 (k + 7 + 1) _ _ _ _ = _
        simp only [slices_stableCmpFunc_api_Charge_c47.l1]
        rw [if_pos b3]
        show slices_stableCmpFunc_api_Charge_c47.l2 (k + 6 + 1) _ _ _ _ _ _ = _
        simp only [slices_stableCmpFunc_api_Charge_c47.l2]
        rw [w_2_20, if_neg b2, w_0_20, if_pos b3, g3]
        simp only [Option.bind_some]
        rw [w_20_2]
        exact stb_end _ _ _ _ (k + 5) (by omega)
    · obtain ⟨B, C, rfl, hB⟩ : ∃ B C, M = B ++ C ∧ B.length = 20 := ⟨M.take 20, M.drop 20, (List.take_append_drop _ _).symm, by rw [List.length_take]; omega⟩
      rw [List.length_append] at hl c1 c2
      have hn : (A ++ (B ++ C)).length = 40 + C.length := by rw [List.length_append, List.length_append]; omega
      have iB : (ist B).length = 20 := by rw [ist_len, hB]
      have iC : (ist C).length = C.length := ist_len C
      have b2 : (40 : Int) ≤ ((A ++ (B ++ C)).length : Int) := by rw [hn]; omega
      have g2 := ins_f2 (L := ist A ++ (B ++ C)) (ist A) B C 20 40 c (k + 8) rfl (by omega) (by omega) (by omega) (by omega)
      show slices_stableCmpFunc_api_Charge_c47.l0 (k + 8 + 1) _ _ _ _ _ _ = _
      simp only [slices_stableCmpFunc_api_Charge_c47.l0]
      rw [if_pos b2, g2]
      simp only [Option.bind_some]
      rw [w_40_20]
      have last : ∀ K, 200020 ≤ K → slices_stableCmpFunc_api_Charge_c47.l1 K (ist A ++ (ist B ++ ist C)) ((A ++ (B ++ C)).length : Int) c 20 = some (ist (A ++ (B ++ C))) := by
        intro K hK
        obtain ⟨K, rfl⟩ : ∃ m, K = m + 3 := ⟨K - 3, by omega⟩
        have b3 : (20 : Int) < ((A ++ (B ++ C)).length : Int) := by rw [hn]; omega
        have b4 : ¬ (80 : Int) ≤ ((A ++ (B ++ C)).length : Int) := by rw [hn]; omega
        have b5 : ¬ (60 : Int) < ((A ++ (B ++ C)).length : Int) := by rw [hn]; omega
        have hm : (mrg (ist A) (ist B)).length = 40 := by rw [mrg_len _ _ _ rfl]; omega
        have sm : srt (mrg (ist A) (ist B)) := mrg_srt _ _ _ rfl (ist_srt A) (ist_srt B)
        have g3 := sym_f2 (L := ist A ++ (ist B ++ ist C)) [] (ist A) (ist B) (ist C) 0 20 40 c (K + 1) (by simp) (by simp) (by simp; omega) (by simp; omega) (by omega) (by omega) (ist_srt A) (ist_srt B) (by simp; omega) (by omega)
        rw [List.nil_append] at g3
        have g4 := stb_40 (mrg (ist A) (ist B)) (ist C) ((A ++ (B ++ C)).length : Int) c K hm (by rw [hn, hm, iC]) (by omega) sm (ist_srt C) (by omega)
        show slices_stableCmpFunc_api_Charge_c47.l1 (K + 2 + 1) _ _ _ _ = _
        simp only [slices_stableCmpFunc_api_Charge_c47.l1]
        rw [if_pos b3]
        show slices_stableCmpFunc_api_Charge_c47.l2 (K + 1 + 1) _ _ _ _ _ _ = _
        simp only [slices_stableCmpFunc_api_Charge_c47.l2]
        rw [w_2_20, if_pos b2, w_0_20, g3]
        simp only [Option.bind_some]
        rw [w_40_40, if_neg b4, w_40_20, if_neg b5, w_20_2, g4, ist_append, ist_append, mrg_assoc _ _ _ _ rfl]
      by_cases c3 : C.length < 20
      · have b3 : ¬ (60 : Int) ≤ ((A ++ (B ++ C)).length : Int) := by rw [hn]; omega
        have lp : (ist A ++ ist B).length = 40 := by rw [List.length_append]; omega
        have g3 := ins_f2 (L := ist A ++ (ist B ++ C)) (ist A ++ ist B) C [] 40 ((A ++ (B ++ C)).length : Int) c (k + 7) (by simp) (by omega) (by rw [hn]; omega) (by simp; omega) (by omega)
        rw [List.append_nil, List.append_assoc] at g3
        show slices_stableCmpFunc_api_Charge_c47.l0 (k + 7 + 1) _ _ _ _ _ _ = _
        simp only [slices_stableCmpFunc_api_Charge_c47.l0]
        rw [if_neg b3, g3]
        simp only [Option.bind_some]
        exact last _ (by omega)
      · have b3 : (60 : Int) ≤ ((A ++ (B ++ C)).length : Int) := by rw [hn]; omega
        have b4 : ¬ (80 : Int) ≤ ((A ++ (B ++ C)).length : Int) := by rw [hn]; omega
        have lp : (ist A ++ ist B).length = 40 := by rw [List.length_append]; omega
        have g3 := ins_f2 (L := ist A ++ (ist B ++ C)) (ist A ++ ist B) C [] 40 60 c (k + 7) (by simp) (by omega) (by omega) (by simp; omega) (by omega)
        rw [List.append_nil, List.append_assoc] at g3
        have lq : (ist A ++ (ist B ++ ist C)).length = 60 := by rw [List.length_append, List.length_append]; omega
        have g4 := ins_f2 (L := ist A ++ (ist B ++ ist C)) (ist A ++ (ist B ++ ist C)) [] [] 60 ((A ++ (B ++ C)).length : Int) c (k + 6) (by simp) (by omega) (by rw [hn]; simp; omega) (by simp; omega) (by omega)
        have e0 : ist ([] : List S62) = [] := rfl
        rw [e0, List.append_nil, List.append_nil] at g4
        show slices_stableCmpFunc_api_Charge_c47.l0 (k + 7 + 1) _ _ _ _ _ _ = _
        simp only [slices_stableCmpFunc_api_Charge_c47.l0]
        rw [if_pos b3, g3]
        simp only [Option.bind_some]
        rw [w_60_20]
        show slices_stableCmpFunc_api_Charge_c47.l0 (k + 6 + 1) _ _ _ _ _ _ = _
        simp only [slices_stableCmpFunc_api_Charge_c47.l0]
        rw [if_neg b4, g4]
        simp only [Option.bind_some]
        exact last _ (by omega)
theorem wj {j : Nat} (h : j < 9223372036854775807) : wrap64 ((j : Int) + 1) = ((j + 1 : Nat) : Int) := by unfold wrap64; omega
theorem rd_at {l : List Int} {j : Nat} (h : j < l.length) : rd l (j : Int) = l[j] := by
  unfold rd
  rw [List.getD_eq_getElem?_getD, Int.toNat_natCast, List.getElem?_eq_getElem h]
  rfl
/-- What is written at place j, when what stands ahead of j has been written. -/
theorem set_walk {α : Type} (f : α → α) (l : List α) {j : Nat} (h : j < l.length) : ((l.map f).take j ++ l.drop j).set j (f l[j]) = (l.map f).take (j + 1) ++ l.drop (j + 1) := by
  have h1 : ((l.map f).take j).length = j := by rw [List.length_take, List.length_map]; omega
  rw [List.set_append_right _ _ (by omega), h1, Nat.sub_self, List.drop_eq_getElem_cons h, List.set_cons_zero]
  have h2 : (l.map f).take (j + 1) = (l.map f).take j ++ [f l[j]] := by
    rw [List.take_add_one, List.getElem?_eq_getElem (by rw [List.length_map]; exact h), List.getElem_map]
    rfl
  rw [h2, List.append_assoc]
  rfl
theorem walk_get {α : Type} (f : α → α) (l : List α) {j : Nat} (h : j < l.length) (h' : j < ((l.map f).take j ++ l.drop j).length) : ((l.map f).take j ++ l.drop j)[j] = l[j] := by
  have h1 : ((l.map f).take j).length = j := by rw [List.length_take, List.length_map]; omega
  rw [List.getElem_append_right (by omega)]
  simp [h1]
theorem walk_len {α : Type} (f : α → α) (l : List α) (j : Nat) (h : j ≤ l.length) : ((l.map f).take j ++ l.drop j).length = l.length := by
  rw [List.length_append, List.length_take, List.length_map, List.length_drop]
  omega
theorem take_push {α : Type} (l : List α) {j : Nat} (h : j < l.length) : l.take j ++ [l[j]] = l.take (j + 1) := by
  rw [List.take_add_one, List.getElem?_eq_getElem h]
  rfl
/-- From the table: how many bits a byte needs. -/
theorem tab_byte (b : Nat) (hb : b < 256) (h0 : 0 < b) : ∃ t : Nat, 1 ≤ t ∧ t ≤ 8 ∧ 2 ^ (t - 1) ≤ b ∧ b < 2 ^ t ∧ bt (⟨#[0, 1, 2, 2, 3, 3, 3, 3, 4, 4, 4, 4, 4, 4, 4, 4, 5, 5, 5, 5, 5, 5, 5, 5, 5, 5, 5, 5, 5, 5, 5, 5, 6, 6, 6, 6, 6, 6, 6, 6, 6, 6, 6, 6, 6, 6, 6, 6, 6, 6, 6, 6, 6, 6, 6, 6, 6, 6, 6, 6, 6, 6, 6, 6, 7, 7, 7, 7, 7, 7, 7, 7, 7, 7, 7, 7, 7, 7, 7, 7, 7, 7, 7, 7, 7, 7, 7, 7, 7, 7, 7, 7, 7, 7, 7, 7, 7, 7, 7, 7, 7, 7, 7, 7, 7, 7, 7, 7, 7, 7, 7, 7, 7, 7, 7, 7, 7, 7, 7, 7, 7, 7, 7, 7, 7, 7, 7, 7, 8, 8, 8, 8, 8, 8, 8, 8, 8, 8, 8, 8, 8, 8, 8, 8, 8, 8, 8, 8, 8, 8, 8, 8, 8, 8, 8, 8, 8, 8, 8, 8, 8, 8, 8, 8, 8, 8, 8, 8, 8, 8, 8, 8, 8, 8, 8, 8, 8, 8, 8, 8, 8, 8, 8, 8, 8, 8, 8, 8, 8, 8, 8, 8, 8, 8, 8, 8, 8, 8, 8, 8, 8, 8, 8, 8, 8, 8, 8, 8, 8, 8, 8, 8, 8, 8, 8, 8, 8, 8, 8, 8, 8, 8, 8, 8, 8, 8, 8, 8, 8, 8, 8, 8, 8, 8, 8, 8, 8, 8, 8, 8, 8, 8, 8, 8, 8, 8, 8, 8, 8, 8, 8, 8, 8, 8, 8, 8]⟩ : ByteArray) (b : Int) = (t : Int) := by
  have h : ∀ b : Fin 256, 0 < b.val → ∃ t : Fin 9, 1 ≤ t.val ∧ 2 ^ (t.val - 1) ≤ b.val ∧ b.val < 2 ^ t.val ∧ bt (⟨#[0, 1, 2, 2, 3, 3, 3, 3, 4, 4, 4, 4, 4, 4, 4, 4, 5, 5, 5, 5, 5, 5, 5, 5, 5, 5, 5, 5, 5, 5, 5, 5, 6, 6, 6, 6, 6, 6, 6, 6, 6, 6, 6, 6, 6, 6, 6, 6, 6, 6, 6, 6, 6, 6, 6, 6, 6, 6, 6, 6, 6, 6, 6, 6, 7, 7, 7, 7, 7, 7, 7, 7, 7, 7, 7, 7, 7, 7, 7, 7, 7, 7, 7, 7, 7, 7, 7, 7, 7, 7, 7, 7, 7, 7, 7, 7, 7, 7, 7, 7, 7, 7, 7, 7, 7, 7, 7, 7, 7, 7, 7, 7, 7, 7, 7, 7, 7, 7, 7, 7, 7, 7, 7, 7, 7, 7, 7, 7, 8, 8, 8, 8, 8, 8, 8, 8, 8, 8, 8, 8, 8, 8, 8, 8, 8, 8, 8, 8, 8, 8, 8, 8, 8, 8, 8, 8, 8, 8, 8, 8, 8, 8, 8, 8, 8, 8, 8, 8, 8, 8, 8, 8, 8, 8, 8, 8, 8, 8, 8, 8, 8, 8, 8, 8, 8, 8, 8, 8, 8, 8, 8, 8, 8, 8, 8, 8, 8, 8, 8, 8, 8, 8, 8, 8, 8, 8, 8, 8, 8, 8, 8, 8, 8, 8, 8, 8, 8, 8, 8, 8, 8, 8, 8, 8, 8, 8, 8, 8, 8, 8, 8, 8, 8, 8, 8, 8, 8, 8, 8, 8, 8, 8, 8, 8, 8, 8, 8, 8, 8, 8, 8, 8, 8, 8, 8, 8]⟩ : ByteArray) (b.val : Int) = (t.val : Int) := by decide +kernel
  obtain ⟨t, h1, h2, h3, h4⟩ := h ⟨b, hb⟩ h0
  exact ⟨t.val, h1, by omega, h2, h3, h4⟩
/-- How many bits a number needs, behind a shift by m. -/
theorem bits_shift {x b : Int} {t m : Nat} (hb : b = x / 2 ^ m) (h1 : 1 ≤ t) (h2 : (2 : Int) ^ (t - 1) ≤ b) (h3 : b < 2 ^ t) : (2 : Int) ^ (t + m - 1) ≤ x ∧ x < 2 ^ (t + m) := by
  subst hb
  obtain ⟨d1, d2⟩ := div_bd (n := x) (two_pow_pos m)
  have e1 := two_pow_split (t - 1) m (t + m - 1) (by omega)
  have e2 := two_pow_split t m (t + m) rfl
  have k1 := Int.mul_le_mul_of_nonneg_right h2 (Int.le_of_lt (two_pow_pos m))
  have k2 : x / 2 ^ m * 2 ^ m + 2 ^ m ≤ 2 ^ t * 2 ^ m := by
    have : (x / 2 ^ m + 1) * 2 ^ m ≤ 2 ^ t * 2 ^ m := Int.mul_le_mul_of_nonneg_right (by omega) (Int.le_of_lt (two_pow_pos m))
    rw [Int.add_mul, Int.one_mul] at this
    exact this
  omega
set_option maxRecDepth 100000 in
theorem Len64_j0 (k : Nat) (x o : Int) (m : Nat) (ho : o = m) (hm : m ≤ 32) (h0 : 0 < x) (h1 : x < 4294967296) :
    ∃ t : Nat, 1 ≤ t ∧ t ≤ 32 ∧ bits_Len64.j0 (k + 1) x o = some ((t + m : Nat) : Int) ∧ (2 : Int) ^ (t - 1) ≤ x ∧ x < 2 ^ t := by
  rw [bits_Len64.j0]
  have key : ∀ (b : Int) (s : Nat), b = x / 2 ^ s → 0 < b → b < 256 → s ≤ 24 → ∃ t : Nat, 1 ≤ t ∧ t ≤ 8 ∧ bt (⟨#[0, 1, 2, 2, 3, 3, 3, 3, 4, 4, 4, 4, 4, 4, 4, 4, 5, 5, 5, 5, 5, 5, 5, 5, 5, 5, 5, 5, 5, 5, 5, 5, 6, 6, 6, 6, 6, 6, 6, 6, 6, 6, 6, 6, 6, 6, 6, 6, 6, 6, 6, 6, 6, 6, 6, 6, 6, 6, 6, 6, 6, 6, 6, 6, 7, 7, 7, 7, 7, 7, 7, 7, 7, 7, 7, 7, 7, 7, 7, 7, 7, 7, 7, 7, 7, 7, 7, 7, 7, 7, 7, 7, 7, 7, 7, 7, 7, 7, 7, 7, 7, 7, 7, 7, 7, 7, 7, 7, 7, 7, 7, 7, 7, 7, 7, 7, 7, 7, 7, 7, 7, 7, 7, 7, 7, 7, 7, 7, 8, 8, 8, 8, 8, 8, 8, 8, 8, 8, 8, 8, 8, 8, 8, 8, 8, 8, 8, 8, 8, 8, 8, 8, 8, 8, 8, 8, 8, 8, 8, 8, 8, 8, 8, 8, 8, 8, 8, 8, 8, 8, 8, 8, 8, 8, 8, 8, 8, 8, 8, 8, 8, 8, 8, 8, 8, 8, 8, 8, 8, 8, 8, 8, 8, 8, 8, 8, 8, 8, 8, 8, 8, 8, 8, 8, 8, 8, 8, 8, 8, 8, 8, 8, 8, 8, 8, 8, 8, 8, 8, 8, 8, 8, 8, 8, 8, 8, 8, 8, 8, 8, 8, 8, 8, 8, 8, 8, 8, 8, 8, 8, 8, 8, 8, 8, 8, 8, 8, 8, 8, 8, 8, 8, 8, 8, 8, 8]⟩ : ByteArray) b = (t : Int) ∧ (2 : Int) ^ (t + s - 1) ≤ x ∧ x < 2 ^ (t + s) := by
    intro b s hb b0 b1 hs
    obtain ⟨c, rfl⟩ := Int.eq_ofNat_of_zero_le (Int.le_of_lt b0)
    obtain ⟨t, t1, t2, t3, t4, t5⟩ := tab_byte c (by omega) (by omega)
    obtain ⟨e1, e2⟩ := bits_shift (x := x) (b := c) (t := t) (m := s) hb t1 (by exact_mod_cast t3) (by exact_mod_cast t4)
    exact ⟨t, t1, t2, t5, e1, e2⟩
  by_cases c1 : x ≥ 65536
  · rw [if_pos c1]
    by_cases c2 : x / 65536 ≥ 256
    · rw [if_pos c2, if_pos (by omega), if_pos (by omega)]
      obtain ⟨t, t1, t2, t3, t4, t5⟩ := key (x / 65536 / 256 % 256) 24 (by rw [Int.emod_eq_of_lt (by omega) (by omega), show ((2 : Int) ^ 24) = 16777216 from rfl]; omega) (by omega) (by omega) (by omega)
      refine ⟨t + 24, by omega, by omega, ?_, t4, t5⟩
      rw [t3, ho, wrap64_id (x := (m : Int) + 16) (by omega) (by omega), wrap64_id (x := (m : Int) + 16 + 8) (by omega) (by omega), wrap64_id (x := (t : Int)) (by omega) (by omega), wrap64_id (by omega) (by omega)]
      congr 1
      omega
    · rw [if_neg c2, if_pos (by omega), if_pos (by omega)]
      obtain ⟨t, t1, t2, t3, t4, t5⟩ := key (x / 65536 % 256) 16 (by rw [Int.emod_eq_of_lt (by omega) (by omega), show ((2 : Int) ^ 16) = 65536 from rfl]) (by omega) (by omega) (by omega)
      refine ⟨t + 16, by omega, by omega, ?_, t4, t5⟩
      rw [t3, ho, wrap64_id (x := (m : Int) + 16) (by omega) (by omega), wrap64_id (x := (t : Int)) (by omega) (by omega), wrap64_id (by omega) (by omega)]
      congr 1
      omega
  · rw [if_neg c1]
    by_cases c2 : x ≥ 256
    · rw [if_pos c2, if_pos (by omega), if_pos (by omega)]
      obtain ⟨t, t1, t2, t3, t4, t5⟩ := key (x / 256 % 256) 8 (by rw [Int.emod_eq_of_lt (by omega) (by omega), show ((2 : Int) ^ 8) = 256 from rfl]) (by omega) (by omega) (by omega)
      refine ⟨t + 8, by omega, by omega, ?_, t4, t5⟩
      rw [t3, ho, wrap64_id (x := (m : Int) + 8) (by omega) (by omega), wrap64_id (x := (t : Int)) (by omega) (by omega), wrap64_id (by omega) (by omega)]
      congr 1
      omega
    · rw [if_neg c2, if_pos (by omega), if_pos (by omega)]
      obtain ⟨t, t1, t2, t3, t4, t5⟩ := key (x % 256) 0 (by rw [Int.emod_eq_of_lt (by omega) (by omega)]; simp) (by omega) (by omega) (by omega)
      refine ⟨t, by omega, by omega, ?_, t4, t5⟩
      rw [t3, ho, wrap64_id (x := (t : Int)) (by omega) (by omega), wrap64_id (by omega) (by omega)]
      congr 1
      omega
theorem Len64_ok (k : Nat) (x : Int) (h0 : 0 < x) (h1 : x < 18446744073709551616) :
    ∃ t : Nat, 1 ≤ t ∧ t ≤ 64 ∧ bits_Len64.f (k + 1) x = some (t : Int) ∧ (2 : Int) ^ (t - 1) ≤ x ∧ x < 2 ^ t := by
  unfold bits_Len64.f
  by_cases c : x ≥ 4294967296
  · rw [if_pos c]
    obtain ⟨t, t1, t2, t3, t4, t5⟩ := Len64_j0 k (x / 4294967296) 32 32 rfl (by omega) (by omega) (by omega)
    obtain ⟨e1, e2⟩ := bits_shift (x := x) (b := x / 4294967296) (t := t) (m := 32) (by rw [show ((2 : Int) ^ 32) = 4294967296 from rfl]) t1 t4 t5
    exact ⟨t + 32, by omega, by omega, t3, e1, e2⟩
  · rw [if_neg c]
    obtain ⟨t, t1, t2, t3, t4, t5⟩ := Len64_j0 k x 0 0 rfl (by omega) h0 (by omega)
    exact ⟨t, by omega, by omega, t3, t4, t5⟩
theorem LeadingZeros64_ok (k : Nat) (x : Int) (h0 : 0 < x) (h1 : x < 18446744073709551616) :
    ∃ s : Nat, s ≤ 63 ∧ bits_LeadingZeros64.f (k + 1) x = some (s : Int) ∧ (9223372036854775808 : Int) ≤ x * 2 ^ s ∧ x * 2 ^ s < 18446744073709551616 := by
  obtain ⟨t, t1, t2, t3, t4, t5⟩ := Len64_ok k x h0 h1
  refine ⟨64 - t, by omega, ?_, ?_, ?_⟩
  · unfold bits_LeadingZeros64.f
    rw [t3]
    simp only [Option.bind_some]
    rw [wrap64_id (by omega) (by omega)]
    congr 1
    omega
  · have e := two_pow_split (t - 1) (64 - t) 63 (by omega)
    have k1 := Int.mul_le_mul_of_nonneg_right t4 (Int.le_of_lt (two_pow_pos (64 - t)))
    rw [e] at k1
    exact k1
  · have e := two_pow_split t (64 - t) 64 (by omega)
    have k1 := Int.mul_lt_mul_of_pos_right t5 (two_pow_pos (64 - t))
    rw [e] at k1
    exact k1

/-! #### the loops of Div64: a guessed digit is lowered until it is the digit -/
section
variable {y yn1 yn0 u v q r : Int}
theorem kn_eq (hy : y = yn1 * 4294967296 + yn0) : q * y = q * yn1 * 4294967296 + q * yn0 := by rw [hy, Int.mul_add, Int.mul_assoc]
theorem kn_dec (hy : y = yn1 * 4294967296 + yn0) (hu0 : 0 ≤ u) (hu : u < y) (hv0 : 0 ≤ v) (hv : v < 4294967296) (hq : u = q * yn1 + r) (hq0 : 0 ≤ q) (hc : q ≥ 4294967296 ∨ q * yn0 > 4294967296 * r + v) : u * 4294967296 + v < q * y ∧ 1 ≤ q := by
  have e := kn_eq (q := q) hy
  have h : u * 4294967296 + v < q * y := by
    rcases hc with h | h
    · have := Int.mul_le_mul_of_nonneg_right h (by omega : 0 ≤ y)
      omega
    · omega
  refine ⟨h, ?_⟩
  rcases Int.lt_or_le 0 q with h' | h'
  · omega
  · have : q = 0 := by omega
    subst this
    rw [Int.zero_mul] at h
    omega
theorem kn_low (hy : y = yn1 * 4294967296 + yn0) (hu : u < y) (hu0 : 0 ≤ u) (hv : v < 4294967296) (hq : q * y ≤ u * 4294967296 + v) : q < 4294967296 := by
  rcases Int.lt_or_le q 4294967296 with h | h
  · exact h
  · have := Int.mul_le_mul_of_nonneg_right h (by omega : 0 ≤ y)
    omega
theorem kn_brk (hy : y = yn1 * 4294967296 + yn0) (h2 : 0 ≤ yn0) (h2' : yn0 < 4294967296) (hv0 : 0 ≤ v) (hq : u = q * yn1 + r) (hq0 : 0 ≤ q) (hq1 : q ≤ 4294967296) (hr : 4294967296 ≤ r) : q * y ≤ u * 4294967296 + v := by
  have e := kn_eq (q := q) hy
  have h := (mul_bd hq0 hq1 h2 (by omega : yn0 ≤ 4294967295)).2
  omega
end

theorem Div64_l0 (y s yn1 yn0 u v un0 : Int) (hy : y = yn1 * 4294967296 + yn0) (h1 : 2147483648 ≤ yn1) (h1' : yn1 < 4294967296) (h2 : 0 ≤ yn0) (h2' : yn0 < 4294967296) (hu0 : 0 ≤ u) (hu : u < y) (hv0 : 0 ≤ v) (hv : v < 4294967296) :
    ∀ (d k : Nat) (q r : Int), 2 * d + 2 ≤ k → 4294967296 ≤ r + d * 2147483648 → 0 ≤ r → r < 4294967296 → u = q * yn1 + r → 0 ≤ q → q ≤ 4294967297 → u * 4294967296 + v < q * y + y →
    ∃ k' q', k ≤ k' + (2 * d + 2) ∧ bits_Div64.l0 k y s yn1 yn0 u v un0 q r = bits_Div64.j2 k' y s yn1 yn0 u v un0 q' ∧ 0 ≤ q' ∧ q' < 4294967296 ∧ q' * y ≤ u * 4294967296 + v ∧ u * 4294967296 + v < q' * y + y := by
  intro d
  induction d with
  | zero => intro k q r _ h; intros; omega
  | succ d ih =>
    intro k q r hk hd hr0 hr hq hq0 hq1 hlt
    obtain ⟨k, rfl⟩ : ∃ m, k = m + 2 := ⟨k - 2, by omega⟩
    have dec : q ≥ 4294967296 ∨ q * yn0 > 4294967296 * r + v → ∃ k' q', k + 2 ≤ k' + (2 * (d + 1) + 2) ∧ bits_Div64.j1 (k + 1) y s yn1 yn0 u v un0 q r true = bits_Div64.j2 k' y s yn1 yn0 u v un0 q' ∧ 0 ≤ q' ∧ q' < 4294967296 ∧ q' * y ≤ u * 4294967296 + v ∧ u * 4294967296 + v < q' * y + y := by
      intro hc
      obtain ⟨g1, g2⟩ := kn_dec hy hu0 hu hv0 hv hq hq0 hc
      have e1 : (q - 1) * y = q * y - y := by rw [Int.sub_mul, Int.one_mul]
      have e2 : (q - 1) * yn1 = q * yn1 - yn1 := by rw [Int.sub_mul, Int.one_mul]
      simp only [bits_Div64.j1, ↓reduceIte]
      rw [wrap_id (x := q - 1) ⟨by omega, by omega⟩, wrap_id (x := r + yn1) ⟨by omega, by omega⟩]
      by_cases c : r + yn1 ≥ 4294967296
      · rw [if_pos c]
        have b := kn_brk (q := q - 1) (r := r + yn1) (u := u) (v := v) hy h2 h2' hv0 (by omega) (by omega) (by omega) c
        exact ⟨k, q - 1, by omega, rfl, by omega, kn_low hy hu hu0 hv b, b, by omega⟩
      · rw [if_neg c]
        obtain ⟨k', q', a1, a2, a3⟩ := ih k (q - 1) (r + yn1) (by omega) (by omega) (by omega) (by omega) (by omega) (by omega) (by omega) (by omega)
        exact ⟨k', q', by omega, a2, a3⟩
    simp only [bits_Div64.l0]
    by_cases c1 : q ≥ 4294967296
    · rw [if_pos c1]
      exact dec (.inl c1)
    · rw [if_neg c1]
      have b1 := mul_bd hq0 (by omega : q ≤ 4294967295) h2 (by omega : yn0 ≤ 4294967295)
      rw [wrap_id (x := q * yn0) ⟨by omega, by omega⟩, wrap_id (x := 4294967296 * r) ⟨by omega, by omega⟩, wrap_id (x := 4294967296 * r + v) ⟨by omega, by omega⟩]
      by_cases c2 : q * yn0 > 4294967296 * r + v
      · rw [decide_eq_true c2]
        exact dec (.inr c2)
      · rw [decide_eq_false c2]
        simp only [bits_Div64.j1, Bool.false_eq_true, ↓reduceIte]
        have e := kn_eq (q := q) hy
        exact ⟨k, q, by omega, rfl, hq0, by omega, by omega, hlt⟩
theorem Div64_l1 (y s yn1 yn0 u v q1 : Int) (hy : y = yn1 * 4294967296 + yn0) (h1 : 2147483648 ≤ yn1) (h1' : yn1 < 4294967296) (h2 : 0 ≤ yn0) (h2' : yn0 < 4294967296) (hu0 : 0 ≤ u) (hu : u < y) (hv0 : 0 ≤ v) (hv : v < 4294967296) (hs : 0 ≤ s) :
    ∀ (d k : Nat) (q r : Int), 2 * d + 2 ≤ k → 4294967296 ≤ r + d * 2147483648 → 0 ≤ r → r < 4294967296 → u = q * yn1 + r → 0 ≤ q → q ≤ 4294967297 → u * 4294967296 + v < q * y + y →
    ∃ q', bits_Div64.l1 k y s yn1 yn0 v q1 r u q = some (IntKind.u64.wrap (IntKind.u64.wrap (q1 * 4294967296) + q'), shr .u64 (IntKind.u64.wrap (IntKind.u64.wrap (IntKind.u64.wrap (u * 4294967296) + v) - IntKind.u64.wrap (q' * y))) s) ∧ 0 ≤ q' ∧ q' < 4294967296 ∧ q' * y ≤ u * 4294967296 + v ∧ u * 4294967296 + v < q' * y + y := by
  intro d
  induction d with
  | zero => intro k q r _ h; intros; omega
  | succ d ih =>
    intro k q r hk hd hr0 hr hq hq0 hq1 hlt
    obtain ⟨k, rfl⟩ : ∃ m, k = m + 2 := ⟨k - 2, by omega⟩
    have dec : q ≥ 4294967296 ∨ q * yn0 > 4294967296 * r + v → ∃ q', bits_Div64.j4 (k + 1) y s yn1 yn0 v q1 r u q true = some (IntKind.u64.wrap (IntKind.u64.wrap (q1 * 4294967296) + q'), shr .u64 (IntKind.u64.wrap (IntKind.u64.wrap (IntKind.u64.wrap (u * 4294967296) + v) - IntKind.u64.wrap (q' * y))) s) ∧ 0 ≤ q' ∧ q' < 4294967296 ∧ q' * y ≤ u * 4294967296 + v ∧ u * 4294967296 + v < q' * y + y := by
      intro hc
      obtain ⟨g1, g2⟩ := kn_dec hy hu0 hu hv0 hv hq hq0 hc
      have e1 : (q - 1) * y = q * y - y := by rw [Int.sub_mul, Int.one_mul]
      have e2 : (q - 1) * yn1 = q * yn1 - yn1 := by rw [Int.sub_mul, Int.one_mul]
      simp only [bits_Div64.j4, ↓reduceIte]
      rw [wrap_id (x := q - 1) ⟨by omega, by omega⟩, wrap_id (x := r + yn1) ⟨by omega, by omega⟩]
      by_cases c : r + yn1 ≥ 4294967296
      · rw [if_pos c, if_pos hs]
        have b := kn_brk (q := q - 1) (r := r + yn1) (u := u) (v := v) hy h2 h2' hv0 (by omega) (by omega) (by omega) c
        exact ⟨q - 1, rfl, by omega, kn_low hy hu hu0 hv b, b, by omega⟩
      · rw [if_neg c]
        exact ih k (q - 1) (r + yn1) (by omega) (by omega) (by omega) (by omega) (by omega) (by omega) (by omega) (by omega)
    simp only [bits_Div64.l1]
    by_cases c1 : q ≥ 4294967296
    · rw [if_pos c1]
      exact dec (.inl c1)
    · rw [if_neg c1]
      have b1 := mul_bd hq0 (by omega : q ≤ 4294967295) h2 (by omega : yn0 ≤ 4294967295)
      rw [wrap_id (x := q * yn0) ⟨by omega, by omega⟩, wrap_id (x := 4294967296 * r) ⟨by omega, by omega⟩, wrap_id (x := 4294967296 * r + v) ⟨by omega, by omega⟩]
      by_cases c2 : q * yn0 > 4294967296 * r + v
      · rw [decide_eq_true c2]
        exact dec (.inr c2)
      · rw [decide_eq_false c2]
        simp only [bits_Div64.j4, Bool.false_eq_true, ↓reduceIte]
        rw [if_pos hs]
        have e := kn_eq (q := q) hy
        exact ⟨q, rfl, hq0, by omega, by omega, hlt⟩
/-- bits.Div64, where the quotient fits: the quotient and the rest. -/
theorem Div64_ok (k : Nat) (hk : 20 ≤ k) (hi lo y : Int) (h0 : 0 ≤ hi) (hl : U64 lo) (hy : y < 18446744073709551616) (hlt : hi < y) :
    bits_Div64.f k hi lo y = some ((hi * 18446744073709551616 + lo) / y, (hi * 18446744073709551616 + lo) % y) := by
  obtain ⟨hl0, hl1⟩ := hl
  unfold bits_Div64.f
  rw [if_neg (by omega), if_neg (by omega)]
  by_cases c0 : hi = 0
  · subst c0
    rw [if_pos rfl, tdiv_nonneg_eq hl0, tmod_nonneg_eq hl0, wrap_id ⟨div_nonneg hl0 (by omega), ?_⟩]
    · simp
    · have := div_le hl0 (by omega : 0 < y)
      omega
  · rw [if_neg c0]
    obtain ⟨k, rfl⟩ : ∃ m, k = m + 1 := ⟨k - 1, by omega⟩
    obtain ⟨s, s1, s2, s3, s4⟩ := LeadingZeros64_ok k y (by omega) hy
    rw [s2]
    simp only [Option.bind_some]
    have P0 := two_pow_pos s
    have R0 := two_pow_pos (64 - s)
    have PR := two_pow_split s (64 - s) 64 (by omega)
    rw [show ((2 : Int) ^ 64) = 18446744073709551616 from rfl] at PR
    rw [wrap_id (x := (s : Int)) ⟨by omega, by omega⟩, wrap_id (x := 64 - (s : Int)) ⟨by omega, by omega⟩, if_pos (by omega), if_pos (by omega)]
    have es : (min ((s : Int).toNat) IntKind.u64.bits) = s := by simp [IntKind.bits] <;> omega
    have es' : (min ((64 - (s : Int)).toNat) IntKind.u64.bits) = 64 - s := by simp [IntKind.bits] <;> omega
    have eY : shl .u64 y (s : Int) = y * 2 ^ s := by unfold shl; rw [es, wrap_id ⟨by omega, s4⟩]
    have eH0 : hi * 2 ^ s ≤ y * 2 ^ s - 2 ^ s := by
      have := Int.mul_le_mul_of_nonneg_right (by omega : hi + 1 ≤ y) (Int.le_of_lt P0)
      rw [Int.add_mul, Int.one_mul] at this
      omega
    have eH1 : 0 ≤ hi * 2 ^ s := Int.mul_nonneg h0 (Int.le_of_lt P0)
    have eH : shl .u64 hi (s : Int) = hi * 2 ^ s := by unfold shl; rw [es, wrap_id ⟨eH1, by omega⟩]
    have eL : shr .u64 lo (64 - (s : Int)) = lo / 2 ^ (64 - s) := by unfold shr; rw [es']
    have eLl : lo / 2 ^ (64 - s) < 2 ^ s := div_lt R0 (by rw [PR]; exact hl1)
    have eL0 : 0 ≤ lo / 2 ^ (64 - s) := div_nonneg hl0 R0
    have eU : Go.bits .or .u64 (hi * 2 ^ s) (lo / 2 ^ (64 - s)) = hi * 2 ^ s + lo / 2 ^ (64 - s) :=
      bits_join .u64 64 (by decide) (fun n a b => wrap_id ⟨a, b⟩) s _ _ eH1 (Int.mul_emod_left _ _) (by show _ < (18446744073709551616 : Int); omega) eL0 eLl (by show _ < (18446744073709551616 : Int); omega)
    obtain ⟨d1, d2, d3⟩ := div_rest (n := lo) R0
    have eLo : lo * 2 ^ s = lo / 2 ^ (64 - s) * 18446744073709551616 + lo % 2 ^ (64 - s) * 2 ^ s := by
      conv => lhs; rw [← d1, Int.add_mul, Int.mul_assoc, Int.mul_comm (2 ^ (64 - s)), PR]
    have eR1 : lo % 2 ^ (64 - s) * 2 ^ s < 18446744073709551616 := by
      have := Int.mul_lt_mul_of_pos_right d3 P0
      rw [Int.mul_comm (2 ^ (64 - s)), PR] at this
      exact this
    have eR0 : 0 ≤ lo % 2 ^ (64 - s) * 2 ^ s := Int.mul_nonneg d2 (Int.le_of_lt P0)
    have eN : shl .u64 lo (s : Int) = lo % 2 ^ (64 - s) * 2 ^ s := by
      unfold shl
      rw [es, wrap_u64, eLo]
      omega
    have eA : Go.bits .and .u64 (y * 2 ^ s) 4294967295 = y * 2 ^ s % 4294967296 :=
      bits_mask .u64 64 (by decide) (fun n a b => wrap_id ⟨a, b⟩) 32 (by decide) _ (by omega) (by show _ < (18446744073709551616 : Int); omega)
    have eB : Go.bits .and .u64 (lo % 2 ^ (64 - s) * 2 ^ s) 4294967295 = lo % 2 ^ (64 - s) * 2 ^ s % 4294967296 :=
      bits_mask .u64 64 (by decide) (fun n a b => wrap_id ⟨a, b⟩) 32 (by decide) _ eR0 (by show _ < (18446744073709551616 : Int); omega)
    rw [eY, eH, eL, eN, eU, eA, eB]
    have eT : (hi * 18446744073709551616 + lo) * 2 ^ s = (hi * 2 ^ s + lo / 2 ^ (64 - s)) * 18446744073709551616 + lo % 2 ^ (64 - s) * 2 ^ s := by
      rw [Int.add_mul, eLo, Int.add_mul, Int.mul_assoc, Int.mul_comm 18446744073709551616 (2 ^ s), ← Int.mul_assoc]
      omega
    obtain ⟨z1, z2⟩ := div_scale (n := hi * 18446744073709551616 + lo) (y := y) P0 (by omega)
    rw [← z1, eT] at *
    generalize hU : hi * 2 ^ s + lo / 2 ^ (64 - s) = U at *
    generalize hV : lo % 2 ^ (64 - s) * 2 ^ s = V at *
    generalize hY : y * 2 ^ s = Y at *
    have hUY : U < Y := by omega
    have hU0 : 0 ≤ U := by omega
    have y1 : Y = Y / 4294967296 * 4294967296 + Y % 4294967296 := by omega
    rw [if_neg (by omega)]
    have n1 : 0 < Y / 4294967296 := by omega
    obtain ⟨g1, g2, g3⟩ := div_rest (n := U) n1
    have gq : U / (Y / 4294967296) < 4294967298 := div_lt n1 (by omega)
    have gq0 := div_nonneg hU0 n1
    rw [tdiv_nonneg_eq hU0, wrap_id (x := U / (Y / 4294967296)) ⟨gq0, by omega⟩]
    have gp0 : 0 ≤ U / (Y / 4294967296) * (Y / 4294967296) := Int.mul_nonneg gq0 (by omega)
    rw [wrap_id (x := U / (Y / 4294967296) * (Y / 4294967296)) ⟨gp0, by omega⟩, wrap_id (x := U - U / (Y / 4294967296) * (Y / 4294967296)) ⟨by omega, by omega⟩]
    have start : ∀ (u v : Int), 0 ≤ u → u < Y → 0 ≤ v → v < 4294967296 → u * 4294967296 + v < u / (Y / 4294967296) * Y + Y := by
      intro u v hu0 huY hv0 hv
      obtain ⟨f1, f2, f3⟩ := div_rest (n := u) n1
      have e := kn_eq (q := u / (Y / 4294967296)) y1
      have := Int.mul_nonneg (div_nonneg hu0 n1) (by omega : 0 ≤ Y % 4294967296)
      omega
    obtain ⟨k', q1, a1, a2, a3, a4, a5, a6⟩ := Div64_l0 Y s (Y / 4294967296) (Y % 4294967296) U (V / 4294967296) (V % 4294967296) y1 (by omega) (by omega) (by omega) (by omega) hU0 hUY (by omega) (by omega) 2 (k + 1) (U / (Y / 4294967296)) (U - U / (Y / 4294967296) * (Y / 4294967296)) (by omega) (by omega) (by omega) (by omega) (by omega) gq0 (by omega) (start U _ hU0 hUY (by omega) (by omega))
    rw [a2]
    obtain ⟨k', rfl⟩ : ∃ m, k' = m + 1 := ⟨k' - 1, by omega⟩
    simp only [bits_Div64.j2]
    rw [if_neg (by omega)]
    have w1 : IntKind.u64.wrap (IntKind.u64.wrap (IntKind.u64.wrap (U * 4294967296) + V / 4294967296) - IntKind.u64.wrap (q1 * Y)) = U * 4294967296 + V / 4294967296 - q1 * Y := by
      simp only [wrap_u64]
      omega
    rw [w1]
    generalize hu2 : U * 4294967296 + V / 4294967296 - q1 * Y = u2 at *
    obtain ⟨b1, b2, b3⟩ := div_rest (n := u2) n1
    have bq : u2 / (Y / 4294967296) < 4294967298 := div_lt n1 (by omega)
    have bq0 := div_nonneg (by omega : 0 ≤ u2) n1
    rw [tdiv_nonneg_eq (by omega : 0 ≤ u2), wrap_id (x := u2 / (Y / 4294967296)) ⟨bq0, by omega⟩]
    have bp0 : 0 ≤ u2 / (Y / 4294967296) * (Y / 4294967296) := Int.mul_nonneg bq0 (by omega)
    rw [wrap_id (x := u2 / (Y / 4294967296) * (Y / 4294967296)) ⟨bp0, by omega⟩, wrap_id (x := u2 - u2 / (Y / 4294967296) * (Y / 4294967296)) ⟨by omega, by omega⟩]
    obtain ⟨q0, c1, c2, c3, c4, c5⟩ := Div64_l1 Y s (Y / 4294967296) (Y % 4294967296) u2 (V % 4294967296) q1 y1 (by omega) (by omega) (by omega) (by omega) (by omega) (by omega) (by omega) (by omega) (by omega) 2 k' (u2 / (Y / 4294967296)) (u2 - u2 / (Y / 4294967296) * (Y / 4294967296)) (by omega) (by omega) (by omega) (by omega) (by omega) bq0 (by omega) (start u2 _ (by omega) (by omega) (by omega) (by omega))
    rw [c1]
    have eq : (q1 * 4294967296 + q0) * Y = q1 * Y * 4294967296 + q0 * Y := by
      rw [Int.add_mul, Int.mul_assoc, Int.mul_comm 4294967296 Y, ← Int.mul_assoc]
    obtain ⟨r1, r2⟩ := div_uniq (n := U * 18446744073709551616 + V) (y := Y) (q := q1 * 4294967296 + q0) (by omega) (by omega)
    have w2 : IntKind.u64.wrap (IntKind.u64.wrap (IntKind.u64.wrap (u2 * 4294967296) + V % 4294967296) - IntKind.u64.wrap (q0 * Y)) = u2 * 4294967296 + V % 4294967296 - q0 * Y := by
      simp only [wrap_u64]
      omega
    have w3 : IntKind.u64.wrap (IntKind.u64.wrap (q1 * 4294967296) + q0) = q1 * 4294967296 + q0 := by
      simp only [wrap_u64]
      omega
    rw [w2, w3, r1]
    have w4 : u2 * 4294967296 + V % 4294967296 - q0 * Y = (U * 18446744073709551616 + V) % Y := by rw [r2]; omega
    rw [w4, z2]
    unfold shr
    rw [es, Int.mul_ediv_cancel _ (by omega)]
/-- The number that two words stand for. -/
def wv (h l : Int) : Int := h * 18446744073709551616 + l
theorem wv_bd {h l : Int} (hh : U64 h) (hl : U64 l) : 0 ≤ wv h l ∧ wv h l < 340282366920938463463374607431768211456 := by
  obtain ⟨_, _⟩ := hh; obtain ⟨_, _⟩ := hl; unfold wv; omega
theorem wv_of {n : Int} : wv (n / 18446744073709551616) (n % 18446744073709551616) = n := by unfold wv; omega
theorem wv_zero {l : Int} : wv 0 l = l := by unfold wv; omega
theorem U64_hi {n : Int} (h0 : 0 ≤ n) (h1 : n < 340282366920938463463374607431768211456) : U64 (n / 18446744073709551616) := ⟨by omega, by omega⟩
theorem U64_lo {n : Int} : U64 (n % 18446744073709551616) := ⟨by omega, by omega⟩
theorem U64_zero : U64 0 := ⟨by decide, by decide⟩

section
variable {a0 a1 b0 b1 : Int}
theorem wide_Add_ok (h0 : U64 a0) (h1 : U64 a1) (h2 : U64 b0) (h3 : U64 b1) (h : wv a0 a1 + wv b0 b1 < 340282366920938463463374607431768211456) :
    wide_Add.f a0 a1 b0 b1 = some ((wv a0 a1 + wv b0 b1) / 18446744073709551616, (wv a0 a1 + wv b0 b1) % 18446744073709551616, 0) := by
  obtain ⟨_, _⟩ := h0; obtain ⟨_, _⟩ := h1; obtain ⟨_, _⟩ := h2; obtain ⟨_, _⟩ := h3
  unfold wv at *
  unfold wide_Add.f bits_Add64.f
  rw [if_pos ⟨by omega, by omega, by omega, by omega⟩]
  simp only [Option.bind_some]
  rw [if_pos ⟨by omega, by omega, by omega, by omega⟩]
  simp only [Option.bind_some]
  rw [if_pos (by omega)]
  congr 3 <;> omega
theorem wide_Small_ok (h0 : a0 = 0) : wide_Small.f a0 a1 = some (a1, 0) := by unfold wide_Small.f; rw [if_pos h0]
theorem wide_Small_err (h0 : a0 ≠ 0) : wide_Small.f a0 a1 = some (0, 16) := by unfold wide_Small.f; rw [if_neg h0]
theorem wide_Of_ok : wide_Of.f a0 = some (0, a0) := rfl
/-- The order of two numbers. -/
def wcmp (a b : Int) : Int := if a < b then -1 else if a = b then 0 else 1
theorem wcmp_neg {a b : Int} : wcmp a b < 0 ↔ a < b := by unfold wcmp; split <;> (try split) <;> omega
theorem wcmp_nonneg {a b : Int} : wcmp a b ≥ 0 ↔ b ≤ a := by unfold wcmp; split <;> (try split) <;> omega
theorem cmp_Compare_ok (a b : Int) : cmp_Compare_uint64.f a b = some (wcmp a b) := by
  unfold cmp_Compare_uint64.f cmp_isNaN_uint64.f wcmp
  have e : ∀ x : Int, (x != x) = false := fun x => by simp
  simp only [e, Option.bind_some]
  rw [if_neg (by decide), if_neg (by decide)]
  by_cases c : a < b
  · rw [if_pos c, if_pos c]
  · rw [if_neg c, if_neg c]
    by_cases d : a > b
    · rw [if_pos d, if_neg (by omega)]
    · rw [if_neg d, if_pos (by omega)]
theorem w01 : wrap64 (0 + 1) = 1 := by unfold wrap64; omega
theorem w11 : wrap64 (1 + 1) = 2 := by unfold wrap64; omega
theorem cmp_Or_two (k : Nat) (x y : Int) : cmp_Or_int.f (k + 3) [x, y] = some (if x = 0 then y else x) := by
  unfold cmp_Or_int.f
  simp only [cmp_Or_int.l0, List.length_cons, List.length_nil, w01, w11]
  have e0 : rd [x, y] 0 = x := rfl
  have e1 : rd [x, y] 1 = y := rfl
  rw [e0, e1, if_pos (by decide), if_pos (by decide), if_pos (by decide)]
  by_cases c : x = 0
  · rw [if_pos c, if_pos c, if_pos (by decide), if_pos (by decide), if_pos (by decide)]
    by_cases d : y = 0
    · rw [if_pos d, if_neg (by decide), d]
    · rw [if_neg d]
  · rw [if_neg c, if_neg c]
theorem wide_Cmp_ok (k : Nat) (h1 : U64 a1) (h3 : U64 b1) : wide_Cmp.f (k + 3) a0 a1 b0 b1 = some (wcmp (wv a0 a1) (wv b0 b1)) := by
  obtain ⟨_, _⟩ := h1; obtain ⟨_, _⟩ := h3
  unfold wide_Cmp.f
  rw [cmp_Compare_ok, cmp_Compare_ok]
  simp only [Option.bind_some, cmp_Or_two]
  congr 1
  unfold wcmp wv
  split <;> (try split) <;> (try split) <;> (try split) <;> (try split) <;> (try split) <;> omega
theorem ref_Cmp_ok (k : Nat) (h1 : U64 a1) (h3 : U64 b1) : spigotref01_Cmp.f (k + 1) a0 a1 b0 b1 = some (wcmp (wv a0 a1) (wv b0 b1)) := by
  obtain ⟨_, _⟩ := h1; obtain ⟨_, _⟩ := h3
  unfold spigotref01_Cmp.f
  simp only [spigotref01_Cmp.j0]
  unfold wcmp wv
  by_cases c : a0 < b0
  · rw [if_pos c]
    simp only [↓reduceIte]
    rw [if_pos (by omega)]
  · rw [if_neg c]
    by_cases d : a0 = b0
    · rw [if_pos d]
      by_cases e : a1 < b1
      · simp only [decide_eq_true e, ↓reduceIte]
        rw [if_pos (by omega)]
      · simp only [decide_eq_false e, Bool.false_eq_true, ↓reduceIte]
        rw [if_neg (c := a0 * 18446744073709551616 + a1 < b0 * 18446744073709551616 + b1) (by omega)]
        by_cases f : a1 = b1
        · rw [if_pos (by simp [d, f]), if_pos (by omega)]
        · rw [if_neg (by simp [d, f]), if_neg (by omega)]
    · simp only [if_neg d, Bool.false_eq_true, ↓reduceIte]
      rw [if_neg (by simp [d]), if_neg (by omega), if_neg (by omega)]
theorem ref_Less_ok (h0 : U64 a0) (h1 : U64 a1) (h2 : U64 b0) (h3 : U64 b1) (h : wv b0 b1 ≤ wv a0 a1) :
    spigotref01_Less.f a0 a1 b0 b1 = some ((wv a0 a1 - wv b0 b1) / 18446744073709551616, (wv a0 a1 - wv b0 b1) % 18446744073709551616) := by
  obtain ⟨_, _⟩ := h0; obtain ⟨_, _⟩ := h1; obtain ⟨_, _⟩ := h2; obtain ⟨_, _⟩ := h3
  unfold wv at *
  unfold spigotref01_Less.f
  simp only [wrap_u64]
  split <;> congr 2 <;> omega
end
theorem and_mask {x : Int} (h0 : 0 ≤ x) (h1 : x < 18446744073709551616) : Go.bits .and .u64 x 4294967295 = x % 4294967296 :=
  bits_mask .u64 64 (by decide) (fun n a b => wrap_id ⟨a, b⟩) 32 (by decide) x h0 h1
theorem and_one {x : Int} (h0 : 0 ≤ x) (h1 : x < 18446744073709551616) : Go.bits .and .u64 x 1 = x % 2 :=
  bits_mask .u64 64 (by decide) (fun n a b => wrap_id ⟨a, b⟩) 1 (by decide) x h0 h1
theorem mul_parts (x y : Int) : x * y = (x / 4294967296) * (y / 4294967296) * 18446744073709551616 + ((x / 4294967296) * (y % 4294967296) + (x % 4294967296) * (y / 4294967296)) * 4294967296 + (x % 4294967296) * (y % 4294967296) := by
  have hx : x = x / 4294967296 * 4294967296 + x % 4294967296 := by omega
  have hy : y = y / 4294967296 * 4294967296 + y % 4294967296 := by omega
  generalize x / 4294967296 = x1 at *
  generalize x % 4294967296 = x0 at *
  generalize y / 4294967296 = y1 at *
  generalize y % 4294967296 = y0 at *
  subst hx; subst hy
  rw [Int.add_mul, Int.mul_add, Int.mul_add]
  have e1 : x1 * 4294967296 * (y1 * 4294967296) = x1 * y1 * 18446744073709551616 := by
    rw [Int.mul_assoc, Int.mul_comm 4294967296 (y1 * 4294967296), Int.mul_assoc y1, ← Int.mul_assoc]; rfl
  have e2 : x1 * 4294967296 * y0 = x1 * y0 * 4294967296 := by rw [Int.mul_assoc, Int.mul_comm 4294967296, ← Int.mul_assoc]
  have e3 : x0 * (y1 * 4294967296) = x0 * y1 * 4294967296 := by rw [Int.mul_assoc]
  rw [e1, e2, e3]
  omega
section
variable {x y : Int}
theorem parts_bd (hx : U64 x) (hy : U64 y) :
    (0 ≤ (x / 4294967296) * (y / 4294967296) ∧ (x / 4294967296) * (y / 4294967296) ≤ 18446744065119617025) ∧ (0 ≤ (x / 4294967296) * (y % 4294967296) ∧ (x / 4294967296) * (y % 4294967296) ≤ 18446744065119617025) ∧
    (0 ≤ (x % 4294967296) * (y / 4294967296) ∧ (x % 4294967296) * (y / 4294967296) ≤ 18446744065119617025) ∧ (0 ≤ (x % 4294967296) * (y % 4294967296) ∧ (x % 4294967296) * (y % 4294967296) ≤ 18446744065119617025) := by
  obtain ⟨_, _⟩ := hx; obtain ⟨_, _⟩ := hy
  have b : ∀ a b : Int, 0 ≤ a → a ≤ 4294967295 → 0 ≤ b → b ≤ 4294967295 → 0 ≤ a * b ∧ a * b ≤ 18446744065119617025 := fun a b h0 h1 h2 h3 => mul_bd h0 h1 h2 h3
  exact ⟨b _ _ (by omega) (by omega) (by omega) (by omega), b _ _ (by omega) (by omega) (by omega) (by omega), b _ _ (by omega) (by omega) (by omega) (by omega), b _ _ (by omega) (by omega) (by omega) (by omega)⟩
theorem mul_U64_bd (hx : U64 x) (hy : U64 y) : 0 ≤ x * y ∧ x * y ≤ 340282366920938463426481119284349108225 := by
  obtain ⟨_, _⟩ := hx; obtain ⟨_, _⟩ := hy
  exact mul_bd (by assumption) (by omega : x ≤ 18446744073709551615) (by assumption) (by omega : y ≤ 18446744073709551615)
theorem bits_Mul64_ok (hx : U64 x) (hy : U64 y) : bits_Mul64.f x y = some (x * y / 18446744073709551616, x * y % 18446744073709551616) := by
  obtain ⟨⟨a1, a2⟩, ⟨b1, b2⟩, ⟨c1, c2⟩, ⟨d1, d2⟩⟩ := parts_bd hx hy
  have e := mul_parts x y
  obtain ⟨hx0, hx1⟩ := hx; obtain ⟨hy0, hy1⟩ := hy
  unfold bits_Mul64.f
  rw [and_mask hx0 hx1, and_mask hy0 hy1, wrap_u64 (x * y)]
  generalize x / 4294967296 * (y / 4294967296) = p11 at *
  generalize x / 4294967296 * (y % 4294967296) = p10 at *
  generalize x % 4294967296 * (y / 4294967296) = p01 at *
  generalize x % 4294967296 * (y % 4294967296) = p00 at *
  generalize x * y = n at *
  rw [wrap_id (x := p11) ⟨by omega, by omega⟩, wrap_id (x := p10) ⟨by omega, by omega⟩, wrap_id (x := p00) ⟨by omega, by omega⟩, wrap_id (x := p01) ⟨by omega, by omega⟩,
    wrap_id (x := p10 + p00 / 4294967296) ⟨by omega, by omega⟩, and_mask (by omega) (by omega), wrap_id (x := (p10 + p00 / 4294967296) % 4294967296 + p01) ⟨by omega, by omega⟩,
    wrap_id (x := p11 + (p10 + p00 / 4294967296) / 4294967296) ⟨by omega, by omega⟩, wrap_id ⟨by omega, by omega⟩]
  congr 2
  omega
theorem wide_Mul_ok (hx : U64 x) (hy : U64 y) : wide_Mul.f x y = some (x * y / 18446744073709551616, x * y % 18446744073709551616) := by
  unfold wide_Mul.f
  rw [bits_Mul64_ok hx hy]
  rfl
theorem ref_Mul_ok (hx : U64 x) (hy : U64 y) : spigotref01_Mul.f x y = some (x * y / 18446744073709551616, x * y % 18446744073709551616) := by
  obtain ⟨⟨a1, a2⟩, ⟨b1, b2⟩, ⟨c1, c2⟩, ⟨d1, d2⟩⟩ := parts_bd hx hy
  have e := mul_parts x y
  obtain ⟨hx0, hx1⟩ := hx; obtain ⟨hy0, hy1⟩ := hy
  unfold spigotref01_Mul.f
  rw [tdiv_nonneg_eq hx0, tdiv_nonneg_eq hy0, tmod_nonneg_eq hx0, tmod_nonneg_eq hy0, wrap_id (x := x / 4294967296) ⟨by omega, by omega⟩, wrap_id (x := y / 4294967296) ⟨by omega, by omega⟩]
  generalize x / 4294967296 * (y / 4294967296) = p11 at *
  generalize x / 4294967296 * (y % 4294967296) = p10 at *
  generalize x % 4294967296 * (y / 4294967296) = p01 at *
  generalize x % 4294967296 * (y % 4294967296) = p00 at *
  generalize x * y = n at *
  rw [wrap_id (x := p11) ⟨by omega, by omega⟩, wrap_id (x := p10) ⟨by omega, by omega⟩, wrap_id (x := p00) ⟨by omega, by omega⟩, wrap_id (x := p01) ⟨by omega, by omega⟩,
    tdiv_nonneg_eq b1, tdiv_nonneg_eq c1, tdiv_nonneg_eq d1, tmod_nonneg_eq b1, tmod_nonneg_eq c1, tmod_nonneg_eq d1,
    wrap_id (x := p10 / 4294967296) ⟨by omega, by omega⟩, wrap_id (x := p01 / 4294967296) ⟨by omega, by omega⟩, wrap_id (x := p00 / 4294967296) ⟨by omega, by omega⟩,
    wrap_id (x := p00 / 4294967296 + p10 % 4294967296) ⟨by omega, by omega⟩, wrap_id (x := p00 / 4294967296 + p10 % 4294967296 + p01 % 4294967296) ⟨by omega, by omega⟩,
    tdiv_nonneg_eq (by omega : 0 ≤ p00 / 4294967296 + p10 % 4294967296 + p01 % 4294967296), tmod_nonneg_eq (by omega : 0 ≤ p00 / 4294967296 + p10 % 4294967296 + p01 % 4294967296),
    wrap_id (x := (p00 / 4294967296 + p10 % 4294967296 + p01 % 4294967296) / 4294967296) ⟨by omega, by omega⟩, wrap_id (x := p11 + p10 / 4294967296) ⟨by omega, by omega⟩, wrap_id (x := p11 + p10 / 4294967296 + p01 / 4294967296) ⟨by omega, by omega⟩,
    wrap_id (x := p11 + p10 / 4294967296 + p01 / 4294967296 + _) ⟨by omega, by omega⟩, wrap_id (x := (p00 / 4294967296 + p10 % 4294967296 + p01 % 4294967296) % 4294967296 * 4294967296) ⟨by omega, by omega⟩, wrap_id ⟨by omega, by omega⟩]
  congr 2 <;> omega
end
section
variable {a0 a1 d : Int}
theorem wide_Div_ok (k : Nat) (hk : 20 ≤ k) (h0 : U64 a0) (h1 : U64 a1) (hd : 0 < d) (hd1 : d < 18446744073709551616) :
    wide_Div.f k a0 a1 d = some (wv a0 a1 / d / 18446744073709551616, wv a0 a1 / d % 18446744073709551616, wv a0 a1 % d, 0) := by
  obtain ⟨r1, r2, r3⟩ := div_rest (n := a0) hd
  have l0 := div_nonneg h0.1 hd
  have l1 := div_le h0.1 hd
  unfold wide_Div.f
  rw [if_neg (by omega), Div64_ok k hk 0 a0 d (by omega) h0 hd1 hd]
  simp only [Option.bind_some, Int.zero_mul, Int.zero_add]
  rw [Div64_ok k hk (a0 % d) a1 d r2 h1 hd1 r3]
  simp only [Option.bind_some]
  obtain ⟨g1, g2⟩ := h1
  obtain ⟨s1, s2, s3⟩ := div_rest (n := a0 % d * 18446744073709551616 + a1) hd
  have q0 := div_nonneg (n := a0 % d * 18446744073709551616 + a1) (by omega) hd
  have q1 : (a0 % d * 18446744073709551616 + a1) / d < 18446744073709551616 := div_lt hd (by omega)
  generalize (a0 % d * 18446744073709551616 + a1) / d = Q at *
  generalize (a0 % d * 18446744073709551616 + a1) % d = R at *
  generalize a0 / d = P at *
  have e : (P * 18446744073709551616 + Q) * d = P * d * 18446744073709551616 + Q * d := by
    rw [Int.add_mul, Int.mul_assoc, Int.mul_comm 18446744073709551616 d, ← Int.mul_assoc]
  obtain ⟨z1, z2⟩ := div_uniq (n := wv a0 a1) (y := d) (q := P * 18446744073709551616 + Q) (by unfold wv; omega) (by unfold wv; omega)
  rw [z1, z2, e]
  unfold wv
  congr 2
  · omega
  · congr 2
    · omega
    · congr 1
      omega
end
/-- A valid limit: Burst, Rate, Per. -/
def VL (b r p : Int) : Prop := 1 ≤ b ∧ b ≤ 1000000000 ∧ 0 ≤ r ∧ r ≤ 1000000000 ∧ 1 ≤ p ∧ p ≤ 1000000000
/-- A valid bucket: its limit, Level, Part, At. -/
def VB (b r p l q t : Int) : Prop := VL b r p ∧ 0 ≤ l ∧ l ≤ b ∧ 0 ≤ q ∧ q < p ∧ (l = b → q = 0) ∧ U64 t
section
variable {b r p l q t s : Int}
theorem CheckLimit_ok (h : VL b r p) : bucket_CheckLimit.f b r p = some 0 := by
  obtain ⟨_, _, _, _, _, _⟩ := h
  unfold bucket_CheckLimit.f
  rw [if_neg (by omega), if_neg (by omega), if_neg (by omega), if_neg (by omega), if_neg (by omega), if_neg (by omega)]
theorem CheckLimit_bad (h : ¬ VL b r p) : bucket_CheckLimit.f b r p = some 8 := by
  unfold bucket_CheckLimit.f
  unfold VL at h
  repeat' split
  all_goals first | rfl | (exfalso; omega)
theorem Check_ok (h : VB b r p l q t) : bucket_Check.f b r p l q t = some 0 := by
  obtain ⟨hl, h1, h2, h3, h4, h5, _⟩ := h
  have hb := hl.1
  have hb' := hl.2.1
  unfold bucket_Check.f
  rw [CheckLimit_ok hl]
  simp only [Option.bind_some, ↓reduceIte]
  rw [if_neg (by omega), wrap64_id (x := b - l) (by omega) (by omega), if_neg (by omega), if_neg (by omega), if_neg (by omega)]
  by_cases c : b - l = 0
  · rw [if_pos c, if_neg (by have := h5 (by omega); omega)]
  · rw [if_neg c]
theorem Check_bad (ht : U64 t) (hl : I64 l) (h : ¬ VB b r p l q t) : bucket_Check.f b r p l q t = some 8 := by
  obtain ⟨_, _⟩ := hl
  unfold bucket_Check.f
  by_cases hv : VL b r p
  · rw [CheckLimit_ok hv]
    simp only [Option.bind_some, ↓reduceIte]
    have h' : ¬ (0 ≤ l ∧ l ≤ b ∧ 0 ≤ q ∧ q < p ∧ (l = b → q = 0)) := fun g => h ⟨hv, g.1, g.2.1, g.2.2.1, g.2.2.2.1, g.2.2.2.2, ht⟩
    obtain ⟨_, _, _, _, _, _⟩ := hv
    by_cases c1 : l < 0
    · rw [if_pos c1]
    · rw [if_neg c1, wrap64_id (x := b - l) (by omega) (by omega)]
      repeat' split
      all_goals first | rfl | (exfalso; omega)
  · rw [CheckLimit_bad hv]
    simp
/-- Level, Part and At behind a refill at t. -/
def fN (r q s t : Int) : Int := (t - s) * r + q
def fL (b r p l q s t : Int) : Int := if t ≤ s then l else if fN r q s t / p ≥ b - l then b else l + fN r q s t / p
def fP (b r p l q s t : Int) : Int := if t ≤ s then q else if fN r q s t / p ≥ b - l then 0 else fN r q s t % p
def fT (s t : Int) : Int := if t ≤ s then s else t
theorem fN_bd (hv : VB b r p l q s) (ht : U64 t) (h : s ≤ t) : 0 ≤ fN r q s t ∧ fN r q s t ≤ 18446744073709551615000000000 + 1000000000 ∧ 0 ≤ (t - s) * r ∧ (t - s) * r ≤ 18446744073709551615000000000 := by
  obtain ⟨⟨_, _, _, _, _, _⟩, _, _, _, _, _, ⟨_, _⟩⟩ := hv
  obtain ⟨_, _⟩ := ht
  have := mul_bd (by omega : 0 ≤ t - s) (by omega : t - s ≤ 18446744073709551615) (by assumption : 0 ≤ r) (by assumption : r ≤ 1000000000)
  unfold fN
  omega
theorem fill_ok (k : Nat) (hk : 20 ≤ k) (hv : VB b r p l q s) (ht : U64 t) : bucket_fill.f k b r p l q s t = some (b, r, p, fL b r p l q s t, fP b r p l q s t, fT s t) := by
  unfold bucket_fill.f fL fP fT
  by_cases c : t ≤ s
  · rw [if_pos c, if_pos c, if_pos c, if_pos c]
  · rw [if_neg c, if_neg c, if_neg c, if_neg c]
    obtain ⟨n0, n1, m0, m1⟩ := fN_bd hv ht (by omega : s ≤ t)
    obtain ⟨⟨b0, b1, r0, r1, p0, p1⟩, l0, l1, q0, q1, _, ⟨s0, s1⟩⟩ := hv
    obtain ⟨t0, t1⟩ := ht
    have ur : U64 r := ⟨by omega, by omega⟩
    have uq : U64 q := ⟨by omega, by omega⟩
    have up : U64 p := ⟨by omega, by omega⟩
    have ud : U64 (t - s) := ⟨by omega, by omega⟩
    have ub : U64 (b - l) := ⟨by omega, by omega⟩
    rw [wrap_id ud, wrap_id ur, wrap_id uq, wrap_id up, wide_Mul_ok ud ur, wide_Of_ok]
    simp only [Option.bind_some]
    rw [wide_Add_ok (U64_hi m0 (by omega)) U64_lo U64_zero uq (by rw [wv_of, wv_zero]; omega), wv_of, wv_zero]
    simp only [Option.bind_some]
    have e : (t - s) * r + q = fN r q s t := rfl
    rw [e, wide_Div_ok k hk (U64_hi n0 (by omega)) U64_lo (by omega) up.2, wv_of]
    simp only [Option.bind_some]
    have d0 := div_nonneg n0 (by omega : 0 < p)
    obtain ⟨e1, e2, e3⟩ := div_rest (n := fN r q s t) (by omega : 0 < p)
    by_cases c2 : fN r q s t / p < 18446744073709551616
    · rw [wide_Small_ok (by omega)]
      simp only [Option.bind_some, ↓reduceIte]
      rw [wrap64_id (x := b - l) (by omega) (by omega), wrap_id ub, show fN r q s t / p % 18446744073709551616 = fN r q s t / p by omega]
      by_cases c3 : fN r q s t / p ≥ b - l
      · rw [if_pos c3, if_pos c3, if_pos c3]
      · rw [if_neg c3, if_neg c3, if_neg c3, wrap64_id (x := fN r q s t / p) (by omega) (by omega), wrap64_id (by omega) (by omega), wrap64_id (by omega) (by omega)]
    · rw [wide_Small_err (by omega)]
      simp only [Option.bind_some]
      rw [if_neg (by decide), if_pos (by omega), if_pos (by omega)]
/-- What a bucket holds behind a refill, in parts. -/
theorem fill_amt (hv : VB b r p l q s) (h : s ≤ t) :
    (l * p + q + (t - s) * r < b * p → fL b r p l q s t * p + fP b r p l q s t = l * p + q + (t - s) * r) ∧ (b * p ≤ l * p + q + (t - s) * r → fL b r p l q s t = b ∧ fP b r p l q s t = 0) := by
  obtain ⟨⟨b0, b1, r0, r1, p0, p1⟩, l0, l1, q0, q1, hf, _⟩ := hv
  unfold fL fP
  by_cases c : t ≤ s
  · rw [if_pos c, if_pos c]
    have : t = s := by omega
    subst this
    rw [Int.sub_self, Int.zero_mul, Int.add_zero]
    refine ⟨fun _ => rfl, fun h => ?_⟩
    rcases Int.lt_or_le l b with g | g
    · have := Int.mul_le_mul_of_nonneg_right (by omega : l + 1 ≤ b) (by omega : 0 ≤ p)
      rw [Int.add_mul, Int.one_mul] at this
      omega
    · exact ⟨by omega, hf (by omega)⟩
  · rw [if_neg c, if_neg c]
    obtain ⟨e1, e2, e3⟩ := div_rest (n := fN r q s t) (by omega : 0 < p)
    have ef : fN r q s t = (t - s) * r + q := rfl
    by_cases c3 : fN r q s t / p ≥ b - l
    · rw [if_pos c3, if_pos c3]
      have h1 := Int.mul_le_mul_of_nonneg_right c3 (by omega : 0 ≤ p)
      rw [Int.sub_mul] at h1
      exact ⟨fun h => by omega, fun _ => ⟨rfl, rfl⟩⟩
    · rw [if_neg c3, if_neg c3]
      have h1 := Int.mul_le_mul_of_nonneg_right (by omega : fN r q s t / p + 1 ≤ b - l) (by omega : 0 ≤ p)
      rw [Int.sub_mul, Int.add_mul, Int.one_mul] at h1
      rw [Int.add_mul]
      exact ⟨fun _ => by omega, fun h => by omega⟩
theorem fT_U64 (hs : U64 s) (ht : U64 t) : U64 (fT s t) := by unfold fT; split <;> assumption
theorem fill_valid (hv : VB b r p l q s) (ht : U64 t) : VB b r p (fL b r p l q s t) (fP b r p l q s t) (fT s t) := by
  have hv0 := hv
  obtain ⟨hl, l0, l1, q0, q1, hf, hs⟩ := hv
  refine ⟨hl, ?_⟩
  have hT := fT_U64 hs ht
  obtain ⟨b0, b1, r0, r1, p0, p1⟩ := hl
  by_cases c : t ≤ s
  · unfold fL fP
    rw [if_pos c, if_pos c]
    exact ⟨l0, l1, q0, q1, hf, hT⟩
  · obtain ⟨n0, n1, m0, m1⟩ := fN_bd hv0 ht (by omega : s ≤ t)
    unfold fL fP
    rw [if_neg c, if_neg c]
    obtain ⟨e1, e2, e3⟩ := div_rest (n := fN r q s t) (by omega : 0 < p)
    have d0 := div_nonneg n0 (by omega : 0 < p)
    by_cases c3 : fN r q s t / p ≥ b - l
    · rw [if_pos c3, if_pos c3]
      exact ⟨by omega, by omega, by omega, by omega, fun _ => rfl, hT⟩
    · rw [if_neg c3, if_neg c3]
      exact ⟨by omega, by omega, e2, e3, fun h => by omega, hT⟩
/-- Amounts tell Level and Part. -/
theorem amt_inj {l q l' q' p : Int} (q0 : 0 ≤ q) (q1 : q < p) (q0' : 0 ≤ q') (q1' : q' < p) (h : l * p + q = l' * p + q') : l = l' ∧ q = q' := by
  obtain ⟨a, b⟩ := div_uniq (n := l * p + q) (y := p) (q := l) (by omega) (by omega)
  obtain ⟨a', b'⟩ := div_uniq (n := l' * p + q') (y := p) (q := l') (by omega) (by omega)
  rw [h] at a b
  exact ⟨by omega, by omega⟩
theorem Refill_ok (k : Nat) (hk : 20 ≤ k) (hv : VB b r p l q s) (ht : U64 t) : bucket_Refill.f k b r p l q s t = some (b, r, p, fL b r p l q s t, fP b r p l q s t, fT s t, 0) := by
  unfold bucket_Refill.f
  rw [Check_ok hv]
  simp only [Option.bind_some, ↓reduceIte]
  rw [fill_ok k hk hv ht]
  rfl
theorem charge_valid (hv : VB b r p l q s) {c : Int} (hc : 0 ≤ c) (h : c ≤ l) : VB b r p (l - c) q s := by
  obtain ⟨hl, l0, l1, q0, q1, hf, hs⟩ := hv
  exact ⟨hl, by omega, by omega, q0, q1, fun e => hf (by omega), hs⟩
theorem Full_ok (h : VL b r p) : bucket_Full.f b r p t = some (b, r, p, b, 0, t, 0) := by unfold bucket_Full.f; rw [CheckLimit_ok h]; rfl
theorem full_valid (h : VL b r p) (ht : U64 t) : VB b r p b 0 t := ⟨h, by have := h.1; omega, by omega, by omega, by have := h.2.2.2.2.1; omega, fun _ => rfl, ht⟩
end
theorem half (P : Int) (i : Nat) : P / 2 ^ i = 2 * (P / 2 ^ (i + 1)) + P / 2 ^ i % 2 := by
  have : P / 2 ^ (i + 1) = P / 2 ^ i / 2 := by rw [Int.pow_succ, Int.ediv_ediv_of_nonneg (Int.le_of_lt (two_pow_pos i))]
  rw [this]
  omega
theorem bit_hi (h l : Int) (i : Nat) (h0 : 0 ≤ l) (h1 : l < 18446744073709551616) : (h * 18446744073709551616 + l) / 2 ^ (64 + i) = h / 2 ^ i := by
  rw [Int.pow_add, ← Int.ediv_ediv_of_nonneg (Int.le_of_lt (two_pow_pos 64))]
  congr 1
  rw [show ((2 : Int) ^ 64) = 18446744073709551616 from rfl]
  omega
theorem bit_lo (h l : Int) (i : Nat) (hi : i < 64) : (h * 18446744073709551616 + l) / 2 ^ i % 2 = l / 2 ^ i % 2 := by
  have e : h * 18446744073709551616 = h * 2 ^ (63 - i) * 2 * 2 ^ i := by
    rw [Int.mul_assoc, Int.mul_assoc, show ((2 : Int) * 2 ^ i) = 2 ^ (i + 1) from by rw [Int.pow_succ, Int.mul_comm], two_pow_split (63 - i) (i + 1) 64 (by omega)]
    rfl
  rw [e, Int.add_comm, Int.add_mul_ediv_right _ _ (by have := two_pow_pos i; omega)]
  omega
theorem shr_ok (x : Int) (i : Int) (h0 : 0 ≤ i) (h1 : i ≤ 63) : shr .u64 x i = x / 2 ^ i.toNat := by
  unfold shr
  rw [show (min i.toNat IntKind.u64.bits) = i.toNat by simp [IntKind.bits] <;> omega]
/-- One digit of a quotient to the base 2. -/
theorem digit_step {n n' D b : Int} (hD : 0 < D) (hn : n' = 2 * n + b) (b0 : 0 ≤ b) (b1 : b ≤ 1) :
    (2 * (n % D) + b ≥ D → n' / D = 2 * (n / D) + 1 ∧ n' % D = 2 * (n % D) + b - D) ∧ (2 * (n % D) + b < D → n' / D = 2 * (n / D) ∧ n' % D = 2 * (n % D) + b) := by
  obtain ⟨r1, r2, r3⟩ := div_rest (n := n) hD
  refine ⟨fun h => ?_, fun h => ?_⟩
  · have e : (2 * (n / D) + 1) * D = 2 * (n / D * D) + D := by rw [Int.add_mul, Int.one_mul, Int.mul_assoc]
    obtain ⟨z1, z2⟩ := div_uniq (n := n') (y := D) (q := 2 * (n / D) + 1) (by omega) (by omega)
    exact ⟨z1, by omega⟩
  · have e : (2 * (n / D)) * D = 2 * (n / D * D) := by rw [Int.mul_assoc]
    obtain ⟨z1, z2⟩ := div_uniq (n := n') (y := D) (q := 2 * (n / D)) (by omega) (by omega)
    exact ⟨z1, by omega⟩
theorem ref_Div_loop (h l d : Int) (h0 : U64 h) (h1 : U64 l) (hd : 0 < d) (hd1 : d < 18446744073709551616) :
    ∀ (i k : Nat), i ≤ 128 → 2 * i + 5 ≤ k →
      spigotref01_Div.l0 k d ((i : Int) - 1) h l (wv h l / 2 ^ i / d / 18446744073709551616) (wv h l / 2 ^ i / d % 18446744073709551616) 0 (wv h l / 2 ^ i % d) = some (wv h l / d / 18446744073709551616, wv h l / d % 18446744073709551616, wv h l % d, 0) := by
  obtain ⟨w0, w1⟩ := wv_bd h0 h1
  have hn : ∀ i : Nat, 0 ≤ wv h l / 2 ^ i ∧ wv h l / 2 ^ i < 340282366920938463463374607431768211456 := by
    intro i
    have := div_le w0 (two_pow_pos i)
    exact ⟨div_nonneg w0 (two_pow_pos i), by omega⟩
  intro i
  induction i with
  | zero =>
    intro k _ hk
    obtain ⟨k, rfl⟩ : ∃ m, k = m + 1 := ⟨k - 1, by omega⟩
    simp only [spigotref01_Div.l0]
    rw [if_neg (by omega)]
    simp
  | succ i ih =>
    intro k hi hk
    obtain ⟨k, rfl⟩ : ∃ m, k = m + 2 := ⟨k - 2, by omega⟩
    have ex : (((i + 1 : Nat) : Int) - 1) = (i : Int) := by omega
    rw [ex]
    obtain ⟨n0, n1⟩ := hn i
    obtain ⟨m0, m1⟩ := hn (i + 1)
    have hhalf := half (wv h l) i
    obtain ⟨r1, r2, r3⟩ := div_rest (n := wv h l / 2 ^ (i + 1)) hd
    have q0 := div_nonneg m0 hd
    have q1 := div_le m0 hd
    have st := digit_step (n := wv h l / 2 ^ (i + 1)) (n' := wv h l / 2 ^ i) (b := wv h l / 2 ^ i % 2) hd hhalf (by omega) (by omega)
    have key : ∀ b : Int, b = wv h l / 2 ^ i % 2 → spigotref01_Div.j1 (k + 1) d (i : Int) b h l (wv h l / 2 ^ (i + 1) / d / 18446744073709551616) (wv h l / 2 ^ (i + 1) / d % 18446744073709551616) 0 (wv h l / 2 ^ (i + 1) % d) = some (wv h l / d / 18446744073709551616, wv h l / d % 18446744073709551616, wv h l % d, 0) := by
      intro b hb
      rw [← hb] at hhalf st
      have b0 : 0 ≤ b := by omega
      have b1 : b ≤ 1 := by omega
      have ih' := ih k (by omega) (by omega)
      simp only [spigotref01_Div.j1]
      generalize wv h l / 2 ^ i = n' at *
      generalize wv h l / 2 ^ (i + 1) = n at *
      generalize hR : n % d = R at *
      generalize hQ : n / d = Q at *
      have eh : IntKind.u64.wrap (IntKind.u64.wrap (0 * 2) + R / 9223372036854775808) = (2 * R + b) / 18446744073709551616 := by simp only [wrap_u64]; omega
      have el : IntKind.u64.wrap (IntKind.u64.wrap (R * 2) + b) = (2 * R + b) % 18446744073709551616 := by simp only [wrap_u64]; omega
      rw [eh, el]
      obtain ⟨k, rfl⟩ : ∃ m, k = m + 1 := ⟨k - 1, by omega⟩
      rw [ref_Cmp_ok k U64_lo ⟨by omega, hd1⟩, wv_of, wv_zero]
      simp only [Option.bind_some]
      rw [wrap64_id (x := (i : Int) - 1) (by omega) (by omega)]
      by_cases c : 2 * R + b ≥ d
      · obtain ⟨s1, s2⟩ := st.1 c
        rw [if_pos (wcmp_nonneg.2 c), ref_Less_ok (U64_hi (by omega) (by omega)) U64_lo U64_zero ⟨by omega, hd1⟩ (by rw [wv_of, wv_zero]; exact c), wv_of, wv_zero]
        simp only [Option.bind_some]
        rw [← ih', s1, s2]
        congr 1 <;> (try simp only [wrap_u64]) <;> omega
      · obtain ⟨s1, s2⟩ := st.2 (by omega)
        rw [if_neg (fun h => c (wcmp_nonneg.1 h)), ← ih', s1, s2]
        congr 1 <;> (try simp only [wrap_u64]) <;> omega
    simp only [spigotref01_Div.l0]
    rw [if_pos (by omega), if_pos (by omega)]
    by_cases c : (i : Int) > 63
    · rw [if_pos c, wrap64_id (x := (i : Int) - 64) (by omega) (by omega), if_pos (by omega), shr_ok _ _ (by omega) (by omega)]
      have hh := div_nonneg h0.1 (two_pow_pos ((i : Int) - 64).toNat)
      have hh1 := div_le h0.1 (two_pow_pos ((i : Int) - 64).toNat)
      have := h0.2
      rw [and_one hh (by omega)]
      refine key _ ?_
      have e := bit_hi h l ((i : Int) - 64).toNat h1.1 h1.2
      rw [show 64 + ((i : Int) - 64).toNat = i by omega] at e
      unfold wv
      rw [e]
    · rw [if_neg c, shr_ok _ _ (by omega) (by omega)]
      have hh := div_nonneg h1.1 (two_pow_pos (i : Int).toNat)
      have hh1 := div_le h1.1 (two_pow_pos (i : Int).toNat)
      have := h1.2
      rw [and_one hh (by omega)]
      refine key _ ?_
      have e := bit_lo h l i (by omega)
      unfold wv
      rw [e]
      rfl
section
variable {a0 a1 d : Int}
theorem ref_Div_ok (k : Nat) (hk : 300 ≤ k) (h0 : U64 a0) (h1 : U64 a1) (hd : 0 < d) (hd1 : d < 18446744073709551616) :
    spigotref01_Div.f k a0 a1 d = some (wv a0 a1 / d / 18446744073709551616, wv a0 a1 / d % 18446744073709551616, wv a0 a1 % d, 0) := by
  have e := ref_Div_loop a0 a1 d h0 h1 hd hd1 128 k (by omega) (by omega)
  obtain ⟨w0, w1⟩ := wv_bd h0 h1
  have z : wv a0 a1 / 2 ^ 128 = 0 := Int.ediv_eq_zero_of_lt w0 w1
  rw [z, Int.zero_ediv, Int.zero_emod] at e
  unfold spigotref01_Div.f
  rw [if_neg (by omega)]
  exact e
end
section
variable {b r p l q t s c : Int}
theorem ref_CheckLimit_ok (h : VL b r p) : spigotref03_CheckLimit.f b r p = some 0 := CheckLimit_ok h
theorem ref_CheckLimit_bad (h : ¬ VL b r p) : spigotref03_CheckLimit.f b r p = some 8 := CheckLimit_bad h
end
theorem cdrop {α : Type} {l : List α} {j : Nat} (h : j < l.length) : l.drop j = l[j] :: l.drop (j + 1) := List.drop_eq_getElem_cons h
theorem rdL_at {l : List S49} {j : Nat} (h : j < l.length) : rd_T49 l (j : Int) = l[j] := by
  unfold rd_T49
  rw [List.getD_eq_getElem?_getD, Int.toNat_natCast, List.getElem?_eq_getElem h]
  rfl
theorem rdC_at {l : List S62} {j : Nat} (h : j < l.length) : rd_T62 l (j : Int) = l[j] := by
  unfold rd_T62
  rw [List.getD_eq_getElem?_getD, Int.toNat_natCast, List.getElem?_eq_getElem h]
  rfl
/-- A valid limit; a valid row of limits. -/
def lO (x : S49) : Prop := VL x.f0 x.f1 x.f2
def cC (l : List S49) : Prop := l.length ≤ 6 ∧ 0 < l.length ∧ ∀ x ∈ l, lO x
theorem cchk_loop (l : List S49) (hl : l.length ≤ 6) : ∀ (d j k : Nat), j + d = l.length → d + 1 ≤ k →
    ((∀ x ∈ l.drop j, lO x) → curve_Check.l0 k l (l.length : Int) (j : Int) = some 0 ∧ spigotref40_Check.l0 k l (j : Int) = some 0) ∧
    (¬ (∀ x ∈ l.drop j, lO x) → curve_Check.l0 k l (l.length : Int) (j : Int) = some 8 ∧ spigotref40_Check.l0 k l (j : Int) = some 8) := by
  intro d
  induction d with
  | zero =>
    intro j k hj hk
    obtain ⟨k, rfl⟩ : ∃ m, k = m + 1 := ⟨k - 1, by omega⟩
    simp only [curve_Check.l0, spigotref40_Check.l0]
    rw [if_neg (by omega), if_neg (by omega), List.drop_eq_nil_of_le (by omega)]
    exact ⟨fun _ => ⟨rfl, rfl⟩, fun h => absurd (fun x hx => by cases hx) h⟩
  | succ d ih =>
    intro j k hj hk
    obtain ⟨k, rfl⟩ : ∃ m, k = m + 1 := ⟨k - 1, by omega⟩
    have hjl : j < l.length := by omega
    obtain ⟨i1, i2⟩ := ih (j + 1) k (by omega) (by omega)
    simp only [curve_Check.l0, spigotref40_Check.l0]
    rw [if_pos (by omega), if_pos (by omega), if_pos (by omega), if_pos (by omega), if_pos (by omega), rdL_at hjl, cdrop hjl, wj (by omega)]
    by_cases c : lO l[j]
    · rw [CheckLimit_ok c, ref_CheckLimit_ok c]
      simp only [Option.bind_some, ↓reduceIte]
      constructor
      · intro h
        exact i1 fun x hx => h x (List.mem_cons_of_mem _ hx)
      · intro h
        refine i2 fun g => h fun x hx => ?_
        rcases List.mem_cons.1 hx with e | e
        · rw [e]
          exact c
        · exact g x e
    · rw [CheckLimit_bad c, ref_CheckLimit_bad c]
      exact ⟨fun h => absurd (h _ List.mem_cons_self) c, fun _ => ⟨rfl, rfl⟩⟩
theorem cCheck_ok {l : List S49} (h : cC l) (k : Nat) (hk : 10 ≤ k) : curve_Check.f k l = some 0 ∧ spigotref40_Check.f k l = some 0 := by
  obtain ⟨h1, h2, h3⟩ := h
  unfold curve_Check.f spigotref40_Check.f
  rw [if_neg (by omega), if_neg (by omega), if_neg (by omega), if_neg (by omega)]
  exact (cchk_loop l h1 l.length 0 k (by omega) (by omega)).1 (by rw [List.drop_zero]; exact h3)
theorem cCheck_bad {l : List S49} (h : ¬ cC l) : ∃ x : Int, x ≠ 0 ∧ x ≠ 6 ∧ ∀ k, 10 ≤ k → curve_Check.f k l = some x ∧ spigotref40_Check.f k l = some x := by
  by_cases h1 : 6 < l.length
  · refine ⟨4, by decide, by decide, fun k _ => ?_⟩
    unfold curve_Check.f spigotref40_Check.f
    rw [if_pos (by omega), if_pos (by omega)]
    exact ⟨rfl, rfl⟩
  · by_cases h2 : l.length = 0
    · refine ⟨2, by decide, by decide, fun k _ => ?_⟩
      unfold curve_Check.f spigotref40_Check.f
      exact ⟨by rw [if_neg (by omega), if_pos (by omega)], by rw [if_neg (by omega), if_pos (by omega)]⟩
    · refine ⟨8, by decide, by decide, fun k _ => ?_⟩
      unfold curve_Check.f spigotref40_Check.f
      rw [if_neg (by omega), if_neg (by omega), if_neg (by omega), if_neg (by omega)]
      exact (cchk_loop l (by omega) l.length 0 k (by omega) (by omega)).2 (by rw [List.drop_zero]; exact fun g => h ⟨by omega, by omega, g⟩)
/-! #### values -/
def vStep (n m : Int) (x : S49) : Int := if n * x.f1 / x.f2 < 1000000000000 then mn m (x.f0 + n * x.f1 / x.f2) else m
/-- What the row allows in n ticks. -/
def cVal (l : List S49) (n : Int) : Int := l.foldl (vStep n) 1000000000000
theorem val_loop (l : List S49) (hl : ∀ x ∈ l, lO x) (hn : l.length ≤ 1000000) (n : Int) (un : U64 n) : ∀ (d j k : Nat) (m : Int), j + d = l.length → d + 301 ≤ k →
    curve_value.l0 k n m l (l.length : Int) (j : Int) = some ((l.drop j).foldl (vStep n) m) ∧ spigotref40_value.l0 k l n m (j : Int) = some ((l.drop j).foldl (vStep n) m) := by
  intro d
  induction d with
  | zero =>
    intro j k m hj hk
    obtain ⟨k, rfl⟩ : ∃ m, k = m + 1 := ⟨k - 1, by omega⟩
    simp only [curve_value.l0, spigotref40_value.l0]
    rw [if_neg (by omega), if_neg (by omega), List.drop_eq_nil_of_le (by omega)]
    exact ⟨rfl, rfl⟩
  | succ d ih =>
    intro j k m hj hk
    obtain ⟨k, rfl⟩ : ∃ m, k = m + 1 := ⟨k - 1, by omega⟩
    have hjl : j < l.length := by omega
    obtain ⟨b0, b1, r0, r1, p0, p1⟩ := hl _ (List.getElem_mem hjl)
    have ur : U64 l[j].f1 := ⟨by omega, by omega⟩
    have up : U64 l[j].f2 := ⟨by omega, by omega⟩
    obtain ⟨m0, m1⟩ := mul_U64_bd un ur
    have hh : U64 (n * l[j].f1 / 18446744073709551616) := U64_hi m0 (by omega)
    have d0 := div_nonneg m0 (by omega : 0 < l[j].f2)
    simp only [curve_value.l0, spigotref40_value.l0]
    rw [if_pos (by omega), if_pos (by omega), if_pos (by omega), if_pos (by omega), if_pos (by omega), rdL_at hjl, cdrop hjl, wj (by omega), wrap_id ur, wrap_id up, wide_Mul_ok un ur, ref_Mul_ok un ur]
    simp only [Option.bind_some]
    rw [wide_Div_ok k (by omega) hh U64_lo (by omega) up.2, ref_Div_ok k (by omega) hh U64_lo (by omega) up.2, wv_of]
    simp only [Option.bind_some, ↓reduceIte]
    rw [wide_Of_ok]
    simp only [Option.bind_some]
    have e := wide_Cmp_ok (a0 := n * l[j].f1 / l[j].f2 / 18446744073709551616) (a1 := n * l[j].f1 / l[j].f2 % 18446744073709551616) (b0 := 0) (b1 := 1000000000000) (k - 3) U64_lo ⟨by decide, by decide⟩
    rw [show k - 3 + 3 = k by omega, wv_of, wv_zero] at e
    rw [e]
    simp only [Option.bind_some]
    rw [List.foldl_cons]
    by_cases c : n * l[j].f1 / l[j].f2 < 1000000000000
    · have v : vStep n m l[j] = mn m (l[j].f0 + n * l[j].f1 / l[j].f2) := by unfold vStep; rw [if_pos c]
      rw [if_pos (wcmp_neg.2 c), v, show n * l[j].f1 / l[j].f2 % 18446744073709551616 = n * l[j].f1 / l[j].f2 by omega, wrap64_id (x := n * l[j].f1 / l[j].f2) (by omega) (by omega), wrap64_id (x := l[j].f0 + n * l[j].f1 / l[j].f2) (by omega) (by omega), if_pos (by omega), if_pos c]
      exact ih (j + 1) k _ (by omega) (by omega)
    · have v : vStep n m l[j] = m := by unfold vStep; rw [if_neg c]
      rw [if_neg (fun h => c (wcmp_neg.1 h)), v]
      obtain ⟨i1, i2⟩ := ih (j + 1) k m (by omega) (by omega)
      refine ⟨i1, ?_⟩
      by_cases c2 : n * l[j].f1 / l[j].f2 / 18446744073709551616 = 0
      · rw [if_pos c2, if_neg (by omega)]
        exact i2
      · rw [if_neg c2]
        exact i2
theorem value_ok {l : List S49} (h : cC l) {n : Int} (un : U64 n) (k : Nat) (hk : 310 ≤ k) : curve_value.f k l n = some (cVal l n) ∧ spigotref40_value.f k l n = some (cVal l n) := by
  obtain ⟨h1, h2, h3⟩ := h
  have e := val_loop l h3 (by omega) n un l.length 0 k 1000000000000 (by omega) (by omega)
  rw [List.drop_zero] at e
  exact e
theorem At_ok {l : List S49} (h : cC l) {n : Int} (un : U64 n) (k : Nat) (hk : 310 ≤ k) : curve_At.f k l n = some (cVal l n, 0) ∧ spigotref40_At.f k l n = some (cVal l n, 0) := by
  obtain ⟨c1, c2⟩ := cCheck_ok h k (by omega)
  obtain ⟨v1, v2⟩ := value_ok h un k hk
  unfold curve_At.f spigotref40_At.f
  rw [c1, c2]
  simp only [Option.bind_some, ↓reduceIte]
  rw [v1, v2]
  exact ⟨rfl, rfl⟩
/-! #### charges -/
def cbad (x : S62) : Prop := x.f1 < 0 ∨ x.f1 > 1000000000
theorem cbad_f (x : S62) : ∃ b, curve_Charges_1.f x.f0 x.f1 = some b ∧ (b = true ↔ cbad x) := by
  unfold curve_Charges_1.f cbad
  by_cases c : x.f1 < 0
  · rw [if_pos c]
    exact ⟨true, rfl, fun _ => .inl c, fun _ => rfl⟩
  · rw [if_neg c]
    refine ⟨_, rfl, ?_⟩
    rw [decide_eq_true_iff]
    omega
theorem bad_idx (cs : List S62) (hn : cs.length ≤ 1000000) : ∀ (d j k : Nat), j + d = cs.length → d + 2 ≤ k → ∃ i : Int, slices_IndexFunc_api_Charge_c36.l0 k cs (cs.length : Int) (j : Int) = some i ∧ (0 ≤ i ↔ ∃ c ∈ cs.drop j, cbad c) := by
  intro d
  induction d with
  | zero =>
    intro j k hj hk
    obtain ⟨k, rfl⟩ : ∃ m, k = m + 1 := ⟨k - 1, by omega⟩
    simp only [slices_IndexFunc_api_Charge_c36.l0]
    rw [if_neg (by omega), List.drop_eq_nil_of_le (by omega)]
    exact ⟨-1, rfl, fun h => absurd h (by decide), fun ⟨_, h, _⟩ => by cases h⟩
  | succ d ih =>
    intro j k hj hk
    obtain ⟨k, rfl⟩ : ∃ m, k = m + 1 := ⟨k - 1, by omega⟩
    have hjl : j < cs.length := by omega
    simp only [slices_IndexFunc_api_Charge_c36.l0]
    rw [if_pos (by omega), if_pos (by omega), if_pos (by omega), rdC_at hjl, cdrop hjl]
    obtain ⟨b, eb, hb⟩ := cbad_f cs[j]
    rw [eb]
    simp only [Option.bind_some]
    by_cases c : b = true
    · rw [if_pos c]
      exact ⟨j, rfl, fun _ => ⟨_, List.mem_cons_self, hb.1 c⟩, fun _ => by omega⟩
    · rw [if_neg c, wj (by omega)]
      obtain ⟨i, e, h⟩ := ih (j + 1) k (by omega) (by omega)
      refine ⟨i, e, h.trans ⟨fun ⟨x, hx, h0⟩ => ⟨x, List.mem_cons_of_mem _ hx, h0⟩, fun ⟨x, hx, h0⟩ => ?_⟩⟩
      rcases List.mem_cons.1 hx with g | g
      · rw [g] at h0
        exact absurd (hb.2 h0) c
      · exact ⟨x, g, h0⟩
theorem bad_any (cs : List S62) (hn : cs.length ≤ 1000000) (k : Nat) (hk : cs.length + 2 ≤ k) (z : Int) : ∃ b, slices_ContainsFunc_api_Charge_c36.f k cs z = some b ∧ (b = true ↔ ∃ c ∈ cs, cbad c) := by
  obtain ⟨i, e, h⟩ := bad_idx cs hn cs.length 0 k (by omega) (by omega)
  unfold slices_ContainsFunc_api_Charge_c36.f slices_IndexFunc_api_Charge_c36.f
  rw [show (0 : Int) = ((0 : Nat) : Int) from rfl, e]
  rw [List.drop_zero] at h
  exact ⟨_, rfl, by rw [decide_eq_true_iff]; exact h⟩
/-- The error of the order from place j on. -/
def oW (c : List S62) : Nat → Nat → Int
  | 0, _ => 0
  | d + 1, j => if (rd_T62 c (j : Int)).f0 < (rd_T62 c ((j - 1 : Nat) : Int)).f0 then 32 else oW c d (j + 1)
theorem ord_loop (c : List S62) (hn : c.length ≤ 1000000) : ∀ (d j k : Nat), 0 < j → j + d = c.length → d + 1 ≤ k → curve_Charges.l0 k c (c.length : Int) (j : Int) = some (oW c d j) ∧ spigotref40_Charges.l1 k c (j : Int) = some (oW c d j) := by
  intro d
  induction d with
  | zero =>
    intro j k h0 hj hk
    obtain ⟨k, rfl⟩ : ∃ m, k = m + 1 := ⟨k - 1, by omega⟩
    simp only [curve_Charges.l0, spigotref40_Charges.l1]
    rw [if_neg (by omega), if_neg (by omega)]
    exact ⟨rfl, rfl⟩
  | succ d ih =>
    intro j k h0 hj hk
    obtain ⟨k, rfl⟩ : ∃ m, k = m + 1 := ⟨k - 1, by omega⟩
    have e1 : wrap64 ((j : Int) - 1) = ((j - 1 : Nat) : Int) := by unfold wrap64; omega
    obtain ⟨i1, i2⟩ := ih (j + 1) k (by omega) (by omega) (by omega)
    simp only [curve_Charges.l0, spigotref40_Charges.l1]
    rw [e1, wj (by omega)]
    have p1 : (j : Int) < (c.length : Int) := by omega
    have p2 : (j : Int) > 0 := by omega
    have p3 : (0 : Int) ≤ (j : Int) := by omega
    have p4 : (0 : Int) ≤ ((j - 1 : Nat) : Int) := by omega
    have p5 : ((j - 1 : Nat) : Int) < (c.length : Int) := by omega
    rw [if_pos p1, if_pos p2, if_pos p3, if_pos p1, if_pos p4, if_pos p5]
    unfold oW
    by_cases g : (rd_T62 c (j : Int)).f0 < (rd_T62 c ((j - 1 : Nat) : Int)).f0
    · simp only [if_pos g, if_pos p1, if_pos p3, if_pos p4, if_pos p5]
      exact ⟨trivial, trivial⟩
    · simp only [if_neg g, if_pos p1, if_pos p3, if_pos p4, if_pos p5]
      exact ⟨i1, i2⟩
theorem oW_zero (c : List S62) : ∀ (d j : Nat), 0 < j → (oW c d j = 0 ↔ ∀ a : Nat, j ≤ a + 1 → a + 1 < j + d → (rd_T62 c (a : Int)).f0 ≤ (rd_T62 c ((a + 1 : Nat) : Int)).f0) := by
  intro d
  induction d with
  | zero => intro j _; exact ⟨fun _ a h1 h2 => by omega, fun _ => rfl⟩
  | succ d ih =>
    intro j h0
    unfold oW
    by_cases g : (rd_T62 c (j : Int)).f0 < (rd_T62 c ((j - 1 : Nat) : Int)).f0
    · rw [if_pos g]
      refine ⟨fun h => absurd h (by decide), fun h => ?_⟩
      have := h (j - 1) (by omega) (by omega)
      rw [show j - 1 + 1 = j by omega] at this
      omega
    · rw [if_neg g, ih (j + 1) (by omega)]
      constructor
      · intro h a h1 h2
        by_cases e : a + 1 = j
        · have ea : a = j - 1 := by omega
          subst ea
          rw [show j - 1 + 1 = j by omega]
          omega
        · exact h a (by omega) (by omega)
      · intro h a h1 h2
        exact h a (by omega) (by omega)
theorem oW_six (c : List S62) : ∀ (d j : Nat), oW c d j ≠ 6 := by
  intro d
  induction d with
  | zero => intro j; unfold oW; decide
  | succ d ih =>
    intro j
    unfold oW
    split
    · decide
    · exact ih _
/-- Charges that are allowed. -/
def cO (c : List S62) : Prop := c.length ≤ 60 ∧ (∀ x ∈ c, 0 ≤ x.f1 ∧ x.f1 ≤ 1000000000) ∧ ∀ a b : Nat, a ≤ b → b < c.length → (rd_T62 c (a : Int)).f0 ≤ (rd_T62 c (b : Int)).f0
theorem rcost_loop (c : List S62) (hn : c.length ≤ 1000000) : ∀ (d j k : Nat), j + d = c.length → d + 1 ≤ k →
    ((¬ ∃ x ∈ c.drop j, cbad x) → spigotref40_Charges.l0 k c (j : Int) = spigotref40_Charges.l1 (k - d - 1) c 1) ∧ ((∃ x ∈ c.drop j, cbad x) → spigotref40_Charges.l0 k c (j : Int) = some 8) := by
  intro d
  induction d with
  | zero =>
    intro j k hj hk
    obtain ⟨k, rfl⟩ : ∃ m, k = m + 1 := ⟨k - 1, by omega⟩
    simp only [spigotref40_Charges.l0]
    rw [if_neg (by omega), List.drop_eq_nil_of_le (by omega)]
    exact ⟨fun _ => rfl, fun ⟨_, h, _⟩ => by cases h⟩
  | succ d ih =>
    intro j k hj hk
    obtain ⟨k, rfl⟩ : ∃ m, k = m + 1 := ⟨k - 1, by omega⟩
    have hjl : j < c.length := by omega
    obtain ⟨i1, i2⟩ := ih (j + 1) k (by omega) (by omega)
    simp only [spigotref40_Charges.l0]
    rw [if_pos (by omega), if_pos (by omega), rdC_at hjl, cdrop hjl, wj (by omega)]
    by_cases b : cbad c[j]
    · refine ⟨fun h => absurd ⟨_, List.mem_cons_self, b⟩ h, fun _ => ?_⟩
      rcases b with b | b
      · rw [if_pos b]
      · rw [if_neg (by omega), if_pos b]
    · have nb := b
      unfold cbad at nb
      rw [if_neg (by omega), if_neg (by omega)]
      constructor
      · intro h
        rw [i1 fun ⟨x, hx, g⟩ => h ⟨x, List.mem_cons_of_mem _ hx, g⟩, show k - d - 1 = k + 1 - (d + 1) - 1 by omega]
      · rintro ⟨x, hx, g⟩
        rcases List.mem_cons.1 hx with e | e
        · rw [e] at g
          exact absurd g b
        · exact i2 ⟨x, e, g⟩
theorem Charges_eq (c : List S62) (hn : c.length ≤ 1000000) : ∃ x : Int, (∀ k, 200 ≤ k → curve_Charges.f k c = some x ∧ spigotref40_Charges.f k c = some x) ∧ (x = 0 ↔ cO c) ∧ x ≠ 6 := by
  by_cases h1 : 60 < c.length
  · refine ⟨4, fun k _ => ?_, ⟨fun h => absurd h (by decide), fun h => ?_⟩, by decide⟩
    · unfold curve_Charges.f spigotref40_Charges.f
      rw [if_pos (by omega), if_pos (by omega)]
      exact ⟨rfl, rfl⟩
    · have := h.1
      omega
  · by_cases h2 : ∃ x ∈ c, cbad x
    · refine ⟨8, fun k hk => ?_, ⟨fun h => absurd h (by decide), fun h => ?_⟩, by decide⟩
      · unfold curve_Charges.f spigotref40_Charges.f
        rw [if_neg (by omega), if_neg (by omega)]
        obtain ⟨b, e, hb⟩ := bad_any c hn k (by omega) 0
        rw [e]
        simp only [Option.bind_some]
        rw [if_pos (hb.2 h2)]
        have r := (rcost_loop c hn c.length 0 k (by omega) (by omega)).2 (by rw [List.drop_zero]; exact h2)
        exact ⟨rfl, r⟩
      · obtain ⟨x, hx, g⟩ := h2
        have := h.2.1 x hx
        unfold cbad at g
        omega
    · refine ⟨oW c (c.length - 1) 1, fun k hk => ?_, ?_, oW_six c _ _⟩
      · unfold curve_Charges.f spigotref40_Charges.f
        rw [if_neg (by omega), if_neg (by omega)]
        obtain ⟨b, e, hb⟩ := bad_any c hn k (by omega) 0
        rw [e]
        simp only [Option.bind_some]
        rw [if_neg (fun g => h2 (hb.1 g))]
        have r := (rcost_loop c hn c.length 0 k (by omega) (by omega)).1 (by rw [List.drop_zero]; exact h2)
        rw [show (0 : Int) = ((0 : Nat) : Int) from rfl, r]
        obtain ⟨k, rfl⟩ : ∃ m, k = m + 1 := ⟨k - 1, by omega⟩
        by_cases z : c.length = 0
        · obtain ⟨q, hq⟩ : ∃ q, k + 1 - c.length - 1 = q + 1 := ⟨k + 1 - c.length - 1 - 1, by omega⟩
          rw [hq]
          simp only [curve_Charges.l0, spigotref40_Charges.l1]
          rw [if_neg (by omega), if_neg (by omega), z]
          exact ⟨rfl, rfl⟩
        · refine ⟨?_, (ord_loop c hn (c.length - 1) 1 _ (by omega) (by omega) (by omega)).2⟩
          simp only [curve_Charges.l0]
          rw [if_pos (by omega), if_neg (by omega), wj (by omega)]
          exact (ord_loop c hn (c.length - 1) 1 k (by omega) (by omega) (by omega)).1
      · rw [oW_zero c _ 1 (by omega)]
        constructor
        · intro h
          refine ⟨by omega, fun x hx => ?_, fun a b hab hb => ?_⟩
          · have : ¬ cbad x := fun g => h2 ⟨x, hx, g⟩
            unfold cbad at this
            omega
          · induction b with
            | zero => rw [show a = 0 by omega]; exact Int.le_refl _
            | succ b ih =>
              by_cases e : a = b + 1
              · rw [e]; exact Int.le_refl _
              · exact Int.le_trans (ih (by omega) (by omega)) (h b (by omega) (by omega))
        · intro h a h1 h2
          exact h.2.2 a (a + 1) (by omega) (by omega)
/-! #### the first charge that is too much -/
def fI (l : List S49) (c : List S62) (i : Nat) : Int → Nat → Option Nat
  | _, 0 => none
  | s, m + 1 => if s + (rd_T62 c (m : Int)).f1 > cVal l ((rd_T62 c (i : Int)).f0 - (rd_T62 c (m : Int)).f0) then some m else fI l c i (s + (rd_T62 c (m : Int)).f1) m
def fO (l : List S49) (c : List S62) : Nat → Nat → Option (Nat × Nat)
  | 0, _ => none
  | d + 1, i => match fI l c i 0 (i + 1) with
    | some j => some (j, i)
    | none => fO l c d (i + 1)
def rP : Option (Nat × Nat) → Int × Int × Int
  | none => (0, 0, 6)
  | some (j, i) => ((j : Int), (i : Int), 0)
def rR : Option (Nat × Nat) → Int × Int
  | none => (-1, -1)
  | some (j, i) => ((j : Int), (i : Int))
theorem inner_loop (l : List S49) (c : List S62) (hl : cC l) (hc : cO c) (hu : ∀ x ∈ c, U64 x.f0) (i : Nat) (hi : i < c.length) (K : Nat) (hK : 320 ≤ K) (R : Option (Nat × Nat))
    (h1 : ∀ k, K ≤ k → curve_First.l0 k l c ((i + 1 : Nat) : Int) = some (rP R)) (h2 : ∀ k, K ≤ k → spigotref40_first.l0 k l c ((i + 1 : Nat) : Int) = some (rR R)) :
    ∀ (m k : Nat) (s : Int), m ≤ i + 1 → 0 ≤ s → s ≤ ((i + 1 - m : Nat) : Int) * 1000000000 → K + m + 1 ≤ k →
    curve_First.l1 k l c (i : Int) s ((m : Int) - 1) = some (rP (match fI l c i s m with | some j => some (j, i) | none => R)) ∧ spigotref40_first.l1 k l c (i : Int) s ((m : Int) - 1) = some (rR (match fI l c i s m with | some j => some (j, i) | none => R)) := by
  have h60 := hc.1
  intro m
  induction m with
  | zero =>
    intro k s hm hs hs' hk
    obtain ⟨k, rfl⟩ : ∃ m, k = m + 1 := ⟨k - 1, by omega⟩
    simp only [curve_First.l1, spigotref40_first.l1]
    rw [if_neg (by omega), if_neg (by omega), wj (by omega)]
    unfold fI
    exact ⟨h1 k (by omega), h2 k (by omega)⟩
  | succ m ih =>
    intro k s hm hs hs' hk
    obtain ⟨k, rfl⟩ : ∃ m, k = m + 1 := ⟨k - 1, by omega⟩
    have hml : m < c.length := by omega
    have em : (((m + 1 : Nat) : Int) - 1) = (m : Int) := by omega
    have c0 := hc.2.1 _ (List.getElem_mem hml)
    have o0 := hc.2.2 m i (by omega) hi
    have u1 := hu _ (List.getElem_mem hi)
    have u0 := hu _ (List.getElem_mem hml)
    rw [← rdC_at hml] at c0 u0
    rw [← rdC_at hi] at u1
    have un : U64 ((rd_T62 c (i : Int)).f0 - (rd_T62 c (m : Int)).f0) := by obtain ⟨_, _⟩ := u1; obtain ⟨_, _⟩ := u0; exact ⟨by omega, by omega⟩
    obtain ⟨v1, v2⟩ := value_ok hl un k (by omega)
    have ew : wrap64 (s + (rd_T62 c (m : Int)).f1) = s + (rd_T62 c (m : Int)).f1 := wrap64_id (by omega) (by omega)
    simp only [curve_First.l1, spigotref40_first.l1]
    rw [em, wrap_id un, v1, v2, if_pos (by omega), if_pos (by omega), if_pos (by omega), if_pos (by omega), if_pos (by omega), if_pos (by omega), if_pos (by omega), if_pos (by omega), if_pos (by omega)]
    simp only [Option.bind_some]
    rw [ew]
    unfold fI
    by_cases g : s + (rd_T62 c (m : Int)).f1 > cVal l ((rd_T62 c (i : Int)).f0 - (rd_T62 c (m : Int)).f0)
    · rw [if_pos g, if_pos g, if_pos g]
      exact ⟨rfl, rfl⟩
    · rw [if_neg g, if_neg g, if_neg g, wrap64_id (x := (m : Int) - 1) (by omega) (by omega)]
      exact ih k _ (by omega) (by omega) (by omega) (by omega)
theorem outer_loop (l : List S49) (c : List S62) (hl : cC l) (hc : cO c) (hu : ∀ x ∈ c, U64 x.f0) :
    ∀ (d i k : Nat), i + d = c.length → d * 64 + 330 ≤ k → curve_First.l0 k l c (i : Int) = some (rP (fO l c d i)) ∧ spigotref40_first.l0 k l c (i : Int) = some (rR (fO l c d i)) := by
  have h60 := hc.1
  intro d
  induction d with
  | zero =>
    intro i k hi hk
    obtain ⟨k, rfl⟩ : ∃ m, k = m + 1 := ⟨k - 1, by omega⟩
    simp only [curve_First.l0, spigotref40_first.l0]
    rw [if_neg (by omega), if_neg (by omega)]
    exact ⟨rfl, rfl⟩
  | succ d ih =>
    intro i k hi hk
    obtain ⟨k, rfl⟩ : ∃ m, k = m + 1 := ⟨k - 1, by omega⟩
    simp only [curve_First.l0, spigotref40_first.l0]
    rw [if_pos (by omega), if_pos (by omega), if_pos (by omega)]
    have e := inner_loop l c hl hc hu i (by omega) (d * 64 + 330) (by omega) (fO l c d (i + 1)) (fun k hk => (ih (i + 1) k (by omega) hk).1) (fun k hk => (ih (i + 1) k (by omega) hk).2) (i + 1) k 0 (by omega) (by omega) (by omega) (by omega)
    rw [show ((i + 1 : Nat) : Int) - 1 = (i : Int) by omega] at e
    unfold fO
    cases g : fI l c i 0 (i + 1) with
    | none => rw [g] at e; exact e
    | some j => rw [g] at e; exact e
theorem first_ok {l : List S49} {c : List S62} (hl : cC l) (hc : cO c) (hu : ∀ x ∈ c, U64 x.f0) (k : Nat) (hk : 4500 ≤ k) :
    curve_First.f k l c = some (rP (fO l c c.length 0)) ∧ spigotref40_first.f k l c = some (rR (fO l c c.length 0)) := by
  have h60 := hc.1
  obtain ⟨c1, c2⟩ := cCheck_ok hl k (by omega)
  obtain ⟨x, hx, h0, _⟩ := Charges_eq c (by omega)
  obtain ⟨x1, x2⟩ := hx k (by omega)
  rw [h0.2 hc] at x1 x2
  obtain ⟨e1, e2⟩ := outer_loop l c hl hc hu c.length 0 k (by omega) (by omega)
  refine ⟨?_, e2⟩
  unfold curve_First.f curve_both.f
  rw [c1]
  simp only [Option.bind_some, ↓reduceIte]
  rw [x1]
  simp only [Option.bind_some, ↓reduceIte]
  rw [if_pos h60]
  exact e1
/-! #### what is at most a value -/
def bq (n : Int) (x : S49) : Int := x.f0 + n * x.f1 / x.f2
theorem vStep_le {n m s : Int} {x : S49} (h0 : 0 ≤ x.f0) (hm : m ≤ 1000000000000) : (s ≤ vStep n m x ↔ s ≤ m ∧ s ≤ bq n x) ∧ vStep n m x ≤ 1000000000000 := by
  unfold vStep bq mn
  split
  · split <;> omega
  · omega
theorem cVal_le {l : List S49} (hl : ∀ x ∈ l, lO x) (n : Int) : ∀ (m s : Int), m ≤ 1000000000000 → (s ≤ l.foldl (vStep n) m ↔ s ≤ m ∧ ∀ x ∈ l, s ≤ bq n x) := by
  induction l with
  | nil => exact fun m s _ => ⟨fun h => ⟨h, fun x hx => by cases hx⟩, fun h => h.1⟩
  | cons x l ih =>
    intro m s hm
    have h0 : 0 ≤ x.f0 := by have := (hl x List.mem_cons_self).1; omega
    obtain ⟨v1, v2⟩ := vStep_le (s := s) (n := n) h0 hm
    rw [List.foldl_cons, ih (fun y hy => hl y (List.mem_cons_of_mem _ hy)) _ s v2, v1, List.forall_mem_cons, and_assoc]
theorem le_cVal {l : List S49} (hl : ∀ x ∈ l, lO x) (n s : Int) : s ≤ cVal l n ↔ s ≤ 1000000000000 ∧ ∀ x ∈ l, s ≤ bq n x := cVal_le hl n _ s (Int.le_refl _)
theorem srtf_ok (L : List S62) (c : Int) (k : Nat) (hl : L.length ≤ 60) (hk : 300000 ≤ k) : slices_SortStableFunc_api_Charge_c47.f k L c = some (ist L) := by
  unfold slices_SortStableFunc_api_Charge_c47.f
  rw [stb_f L c k hl hk]
  rfl
theorem grow_ok (n : Nat) (h : n ≤ 1000000) : slices_Grow_api_Charge.f ([] : List S62) (n : Int) = some [] := by
  unfold slices_Grow_api_Charge.f
  rw [if_pos (by rfl), if_pos (by omega), if_pos (by omega)]
theorem w_0_1 : wrap64 ((0 : Int) + 1) = 1 := by unfold wrap64; omega
theorem w_1_1 : wrap64 ((1 : Int) + 1) = 2 := by unfold wrap64; omega
theorem concat_ok (a b : List S62) (k : Nat) (h : a.length + b.length ≤ 60) (hk : 20 ≤ k) : slices_Concat_api_Charge.f k [a, b] = some (a ++ b) := by
  obtain ⟨k, rfl⟩ : ∃ m, k = m + 6 := ⟨k - 6, by omega⟩
  have r0 : rd_L5 [a, b] 0 = a := rfl
  have r1 : rd_L5 [a, b] 1 = b := rfl
  have b1 : ¬ (a.length : Int) < 0 := by omega
  have b2 : ¬ ((a.length + b.length : Nat) : Int) < 0 := by omega
  have b0 : a.length + b.length ≤ 100000 := by omega
  have b9 : a.length + b.length ≤ 1000000 := by omega
  have g := grow_ok (a.length + b.length) b9
  have b3 : ([] : List S62).length + a.length < 8796093022208 := by simp; omega
  have b4 : a.length + b.length < 8796093022208 := by omega
  have wa : wrap64 (0 + (a.length : Int)) = (a.length : Int) := by unfold wrap64; omega
  have wb : wrap64 ((a.length : Int) + (b.length : Int)) = ((a.length + b.length : Nat) : Int) := wadd b0
  have hlen : (([a, b] : List (List S62)).length : Int) = 2 := rfl
  unfold slices_Concat_api_Charge.f
  rw [hlen]
  rw [show k + 6 = k + 5 + 1 from rfl, slices_Concat_api_Charge.l0, hlen, if_pos (by decide), if_pos (by decide), if_pos (by decide), r0, wa, if_neg b1, w_0_1]
  rw [show k + 5 = k + 4 + 1 from rfl, slices_Concat_api_Charge.l0, hlen, if_pos (by decide), if_pos (by decide), if_pos (by decide), r1, wb, if_neg b2, w_1_1]
  rw [show k + 4 = k + 3 + 1 from rfl, slices_Concat_api_Charge.l0, if_neg (by decide), g, hlen]
  simp only [Option.bind_some]
  rw [show k + 3 = k + 2 + 1 from rfl, slices_Concat_api_Charge.l1, hlen, if_pos (by decide), if_pos (by decide), if_pos (by decide), r0, if_pos b3, w_0_1, List.nil_append]
  rw [show k + 2 = k + 1 + 1 from rfl, slices_Concat_api_Charge.l1, hlen, if_pos (by decide), if_pos (by decide), if_pos (by decide), r1, if_pos b4, w_1_1]
  rw [slices_Concat_api_Charge.l1, if_neg (by decide)]
theorem cO_srt {c : List S62} (h : cO c) : srt c := by
  refine List.pairwise_iff_getElem.2 fun i j hi hj hij => ?_
  have := h.2.2 i j (by omega) hj
  rw [rdS_at hi, rdS_at hj] at this
  exact this
theorem rjoin_loop (a b : List S62) (ha : a.length ≤ 100) (hb : b.length ≤ 100) : ∀ (n : Nat),
    (∀ (i j k : Nat) (o : List S62), (a.length - i) + (b.length - j) ≤ n → i ≤ a.length → j ≤ b.length → o.length + n ≤ 1000 → 2 * n + 2 ≤ k → spigotref40_Join.l0 k a b o (j : Int) (i : Int) = some (o ++ mrg (a.drop i) (b.drop j), 0)) ∧
    (∀ (i j k : Nat) (o : List S62), (a.length - i) + (b.length - j) ≤ n → i < a.length → j ≤ b.length → o.length + n ≤ 1000 → 2 * n + 1 ≤ k → spigotref40_Join.l1 k a b o (j : Int) (i : Int) = some (o ++ mrg (a.drop i) (b.drop j), 0)) := by
  intro n
  induction n with
  | zero =>
    refine ⟨fun i j k o h hi hj ho hk => ?_, fun i j k o h hi hj ho hk => by omega⟩
    obtain ⟨k, rfl⟩ : ∃ m, k = m + 1 := ⟨k - 1, by omega⟩
    have b1 : ¬ (i : Int) < (a.length : Int) := by omega
    have e1 : a.drop i = [] := List.drop_eq_nil_of_le (by omega)
    have e2 : b.drop j = [] := List.drop_eq_nil_of_le (by omega)
    simp only [spigotref40_Join.l0]
    rw [if_neg b1, if_pos (by omega), if_pos (by omega), Int.toNat_natCast, e1, e2]
    simp only [Option.bind_some]
    rw [if_pos (by simp; omega), nil_mrg]
  | succ n ih =>
    obtain ⟨ih0, ih1⟩ := ih
    have T : ∀ (i j k : Nat) (o : List S62), (a.length - i) + (b.length - j) ≤ n + 1 → i < a.length → j ≤ b.length → o.length + (n + 1) ≤ 1000 → 2 * (n + 1) + 1 ≤ k → spigotref40_Join.l1 k a b o (j : Int) (i : Int) = some (o ++ mrg (a.drop i) (b.drop j), 0) := by
      intro i j k o h hi hj ho hk
      obtain ⟨k, rfl⟩ : ∃ m, k = m + 1 := ⟨k - 1, by omega⟩
      have b3 : 0 ≤ (i : Int) := by omega
      have b4 : (i : Int) < (a.length : Int) := by omega
      have b5 : o.length < 8796093022208 := by omega
      have ea : a.drop i = a[i] :: a.drop (i + 1) := List.drop_eq_getElem_cons hi
      have ra := rdS_at hi
      have wi : wrap64 ((i : Int) + 1) = ((i + 1 : Nat) : Int) := wj1 (by omega)
      have ga := ih0 (i + 1) j k (o ++ [a[i]]) (by omega) (by omega) hj (by simp; omega) (by omega)
      by_cases z : j < b.length
      · have b1 : (j : Int) < (b.length : Int) := by omega
        have b2 : 0 ≤ (j : Int) := by omega
        have eb : b.drop j = b[j] :: b.drop (j + 1) := List.drop_eq_getElem_cons z
        have rb := rdS_at z
        have bj : j ≤ 100000 := by omega
        simp only [spigotref40_Join.l1]
        rw [if_pos b1, if_pos b2, if_pos b3, if_pos b4, rb, ra]
        by_cases c : b[j].f0 < a[i].f0
        · have gb := ih1 i (j + 1) k (o ++ [b[j]]) (by omega) hi (by omega) (by simp; omega) (by omega)
          rw [if_pos c, if_pos b5, wj1 bj]
          refine gb.trans ?_
          rw [ea, eb, mrg_lt c]
          simp
        · rw [if_neg c, if_pos b5, wi]
          refine ga.trans ?_
          rw [ea, eb, mrg_ge (by omega)]
          simp
      · have b1 : ¬ (j : Int) < (b.length : Int) := by omega
        have eb : b.drop j = [] := List.drop_eq_nil_of_le (by omega)
        simp only [spigotref40_Join.l1]
        rw [if_neg b1, if_pos b3, if_pos b4, ra, if_pos b5, wi]
        refine ga.trans ?_
        rw [ea, eb, mrg_nil, mrg_nil]
        simp
    refine ⟨fun i j k o h hi hj ho hk => ?_, T⟩
    obtain ⟨k, rfl⟩ : ∃ m, k = m + 1 := ⟨k - 1, by omega⟩
    by_cases z : i < a.length
    · have b1 : (i : Int) < (a.length : Int) := by omega
      simp only [spigotref40_Join.l0]
      rw [if_pos b1]
      exact T i j k o h z hj ho (by omega)
    · have b1 : ¬ (i : Int) < (a.length : Int) := by omega
      have e1 : a.drop i = [] := List.drop_eq_nil_of_le (by omega)
      have b6 : o.length + (b.drop j).length < 8796093022208 := by rw [List.length_drop]; omega
      simp only [spigotref40_Join.l0]
      rw [if_neg b1, if_pos (by omega), if_pos (by omega), Int.toNat_natCast, e1]
      simp only [Option.bind_some]
      rw [if_pos b6, nil_mrg]
theorem join_ok {a b : List S62} (ha : cO a) (hb : cO b) (h : a.length + b.length ≤ 60) (k : Nat) (hk : 400000 ≤ k) : curve_Join.f k a b = some (mrg a b, 0) ∧ spigotref40_Join.f k a b = some (mrg a b, 0) := by
  obtain ⟨k, rfl⟩ : ∃ m, k = m + 3 := ⟨k - 3, by omega⟩
  obtain ⟨x, hx, hx0, _⟩ := Charges_eq a (by omega)
  obtain ⟨y, hy, hy0, _⟩ := Charges_eq b (by omega)
  obtain rfl := hx0.2 ha
  obtain rfl := hy0.2 hb
  have r0 : rd_L5 [a, b] 0 = a := rfl
  have r1 : rd_L5 [a, b] 1 = b := rfl
  have hlen : (([a, b] : List (List S62)).length : Int) = 2 := rfl
  have b0 : a.length + b.length ≤ 100000 := by omega
  have b2 : ¬ ((a.length + b.length : Nat) : Int) > 60 := by omega
  constructor
  · unfold curve_Join.f
    rw [Option.bind_some]
    rw [hlen]
    rw [show k + 3 = k + 2 + 1 from rfl, curve_Join.l0, hlen, if_pos (by decide), if_pos (by decide), if_pos (by decide), r0, (hx (k + 2) (by omega)).1]
    rw [Option.bind_some, if_pos rfl]
    rw [w_0_1]
    rw [show k + 2 = k + 1 + 1 from rfl, curve_Join.l0, hlen, if_pos (by decide), if_pos (by decide), if_pos (by decide), r1, (hy (k + 1) (by omega)).1]
    rw [Option.bind_some, if_pos rfl]
    rw [w_1_1]
    rw [curve_Join.l0, if_neg (by decide), wadd b0, if_neg b2, concat_ok a b k h (by omega)]
    rw [Option.bind_some]
    rw [srtf_ok (a ++ b) 0 k (by rw [List.length_append]; omega) (by omega), ist_two (cO_srt ha) (cO_srt hb)]
    rfl
  · unfold spigotref40_Join.f
    rw [(hx (k + 3) (by omega)).2]
    rw [Option.bind_some, if_pos rfl]
    rw [(hy (k + 3) (by omega)).2]
    rw [Option.bind_some, if_pos rfl]
    rw [wadd b0, if_neg b2]
    have g := (rjoin_loop a b (by omega) (by omega) (a.length + b.length)).1 0 0 (k + 3) [] (by omega) (by omega) (by omega) (by simp; omega) (by omega)
    rw [List.drop_zero, List.drop_zero, List.nil_append] at g
    exact g
/-- A valid bucket; one whose fields are in their ranges; refilled; with a cost less. -/
def bV (x : S51) : Prop := VB x.f0.f0 x.f0.f1 x.f0.f2 x.f1 x.f2 x.f3
def bR (x : S51) : Prop := I64 x.f0.f0 ∧ I64 x.f0.f1 ∧ I64 x.f0.f2 ∧ I64 x.f1 ∧ I64 x.f2 ∧ U64 x.f3
def bfill (t : Int) (x : S51) : S51 := ⟨x.f0, fL x.f0.f0 x.f0.f1 x.f0.f2 x.f1 x.f2 x.f3 t, fP x.f0.f0 x.f0.f1 x.f0.f2 x.f1 x.f2 x.f3 t, fT x.f3 t⟩
def bsub (c : Int) (x : S51) : S51 := ⟨x.f0, x.f1 - c, x.f2, x.f3⟩
theorem bfill_valid {t : Int} {x : S51} (h : bV x) (ht : U64 t) : bV (bfill t x) := fill_valid h ht
theorem bsub_valid {c : Int} {x : S51} (h : bV x) (h0 : 0 ≤ c) (h1 : c ≤ x.f1) : bV (bsub c x) := charge_valid h h0 h1
theorem rdB_at {l : List S51} {j : Nat} (h : j < l.length) : rd_T51 l (j : Int) = l[j] := by
  unfold rd_T51
  rw [List.getD_eq_getElem?_getD, Int.toNat_natCast, List.getElem?_eq_getElem h]
  rfl
theorem drop_cons {α : Type} {l : List α} {j : Nat} (h : j < l.length) : l.drop j = l[j] :: l.drop (j + 1) := List.drop_eq_getElem_cons h
/-! #### costs below 0 -/
theorem neg_idx (cs : List Int) (hn : cs.length ≤ 1000000) : ∀ (d j k : Nat), j + d = cs.length → d + 2 ≤ k → ∃ i : Int, slices_IndexFunc_int64_c70.l0 k cs (cs.length : Int) (j : Int) = some i ∧ (0 ≤ i ↔ ∃ c ∈ cs.drop j, c < 0) := by
  intro d
  induction d with
  | zero =>
    intro j k hj hk
    obtain ⟨k, rfl⟩ : ∃ m, k = m + 1 := ⟨k - 1, by omega⟩
    simp only [slices_IndexFunc_int64_c70.l0]
    rw [if_neg (by omega), List.drop_eq_nil_of_le (by omega)]
    exact ⟨-1, rfl, fun h => absurd h (by decide), fun ⟨_, h, _⟩ => by cases h⟩
  | succ d ih =>
    intro j k hj hk
    obtain ⟨k, rfl⟩ : ∃ m, k = m + 1 := ⟨k - 1, by omega⟩
    have hjl : j < cs.length := by omega
    simp only [slices_IndexFunc_int64_c70.l0]
    rw [if_pos (by omega), if_pos (by omega), if_pos (by omega), rd_at hjl, drop_cons hjl]
    simp only [levels_check_1.f, Option.bind_some]
    by_cases c : cs[j] < 0
    · rw [if_pos (decide_eq_true c)]
      exact ⟨j, rfl, fun _ => ⟨_, List.mem_cons_self, c⟩, fun _ => by omega⟩
    · rw [if_neg (by simpa using c), wj (by omega)]
      obtain ⟨i, e, h⟩ := ih (j + 1) k (by omega) (by omega)
      refine ⟨i, e, h.trans ⟨fun ⟨x, hx, h0⟩ => ⟨x, List.mem_cons_of_mem _ hx, h0⟩, fun ⟨x, hx, h0⟩ => ?_⟩⟩
      rcases List.mem_cons.1 hx with g | g
      · rw [g] at h0
        exact absurd h0 c
      · exact ⟨x, g, h0⟩
theorem neg_any (cs : List Int) (hn : cs.length ≤ 1000000) (k : Nat) (hk : cs.length + 2 ≤ k) (z : Int) : ∃ b, slices_ContainsFunc_int64_c70.f k cs z = some b ∧ (b = true ↔ ∃ c ∈ cs, c < 0) := by
  obtain ⟨i, e, h⟩ := neg_idx cs hn cs.length 0 k (by omega) (by omega)
  unfold slices_ContainsFunc_int64_c70.f slices_IndexFunc_int64_c70.f
  rw [show (0 : Int) = ((0 : Nat) : Int) from rfl, e]
  rw [List.drop_zero] at h
  exact ⟨_, rfl, by rw [decide_eq_true_iff]; exact h⟩
/-! #### checks -/
theorem check_loop (l : List S51) (cs : List Int) (hn : cs.length ≤ 1000000) (hl : l.length ≤ 8) : ∀ (d j k : Nat), j + d = l.length → d + cs.length + 4 ≤ k →
    ((∀ x ∈ l.drop j, bV x) → ∃ b, levels_check.l0 k l cs (l.length : Int) (j : Int) = some (if b = true then 2 else 0) ∧ (b = true ↔ ∃ c ∈ cs, c < 0)) ∧
    ((∀ x ∈ l, bR x) → ¬ (∀ x ∈ l.drop j, bV x) → levels_check.l0 k l cs (l.length : Int) (j : Int) = some 8) := by
  intro d
  induction d with
  | zero =>
    intro j k hj hk
    obtain ⟨k, rfl⟩ : ∃ m, k = m + 1 := ⟨k - 1, by omega⟩
    simp only [levels_check.l0]
    rw [if_neg (by omega), List.drop_eq_nil_of_le (by omega)]
    refine ⟨fun _ => ?_, fun _ h => absurd (fun x hx => by cases hx) h⟩
    obtain ⟨b, e, h⟩ := neg_any cs hn k (by omega) 0
    rw [e]
    refine ⟨b, ?_, h⟩
    simp only [Option.bind_some]
    split <;> rfl
  | succ d ih =>
    intro j k hj hk
    obtain ⟨k, rfl⟩ : ∃ m, k = m + 1 := ⟨k - 1, by omega⟩
    have hjl : j < l.length := by omega
    obtain ⟨i1, i2⟩ := ih (j + 1) k (by omega) (by omega)
    simp only [levels_check.l0]
    rw [if_pos (by omega), if_pos (by omega), if_pos (by omega), rdB_at hjl, drop_cons hjl, wj (by omega)]
    constructor
    · intro h
      rw [Check_ok (h _ List.mem_cons_self)]
      simp only [Option.bind_some, ↓reduceIte]
      exact i1 fun x hx => h x (List.mem_cons_of_mem _ hx)
    · intro hr h
      by_cases c : bV l[j]
      · rw [Check_ok c]
        simp only [Option.bind_some, ↓reduceIte]
        refine i2 hr fun g => h fun x hx => ?_
        rcases List.mem_cons.1 hx with e | e
        · rw [e]
          exact c
        · exact g x e
      · have hx := hr l[j] (List.getElem_mem hjl)
        rw [Check_bad hx.2.2.2.2.2 hx.2.2.2.1 c]
        rfl
/-- A valid row. -/
def lV (l : List S51) : Prop := l.length ≤ 8 ∧ ∀ x ∈ l, bV x
theorem check_ok {l : List S51} (h : lV l) (cs : List Int) (hn : cs.length ≤ 1000000) (k : Nat) (hk : cs.length + 12 ≤ k) (hc : ∀ c ∈ cs, 0 ≤ c) : levels_check.f k l cs = some 0 := by
  unfold levels_check.f
  obtain ⟨h1, h2⟩ := h
  rw [if_neg (by omega)]
  obtain ⟨b, e, g⟩ := (check_loop l cs hn h1 l.length 0 k (by omega) (by omega)).1 (by rw [List.drop_zero]; exact h2)
  rw [show (0 : Int) = ((0 : Nat) : Int) from rfl, e]
  have : ¬ b = true := fun hb => by obtain ⟨c, m, n⟩ := g.1 hb; have := hc c m; omega
  rw [if_neg this]
  rfl
theorem clone_ok {l : List S51} (h : l.length ≤ 1000000) : slices_Clone_api_Bucket.f l = some l := by
  unfold slices_Clone_api_Bucket.f
  simp only [Option.bind_some, List.length_nil, List.nil_append]
  rw [if_pos (by omega)]
theorem fill_loop (l : List S51) (t : Int) (ht : U64 t) (hn : l.length ≤ 1000000) (hv : ∀ x ∈ l, bV x) : ∀ (d j k : Nat), j + d = l.length → d + 25 ≤ k → levels_fill.l0 k t ((l.map (bfill t)).take j ++ l.drop j) (l.length : Int) (j : Int) = some (l.map (bfill t)) := by
  intro d
  induction d with
  | zero =>
    intro j k hj hk
    obtain ⟨k, rfl⟩ : ∃ m, k = m + 1 := ⟨k - 1, by omega⟩
    simp only [levels_fill.l0]
    rw [if_neg (by omega), List.drop_eq_nil_of_le (by omega), List.take_of_length_le (by rw [List.length_map]; omega), List.append_nil]
  | succ d ih =>
    intro j k hj hk
    obtain ⟨k, rfl⟩ : ∃ m, k = m + 1 := ⟨k - 1, by omega⟩
    have hjl : j < l.length := by omega
    have hlen := walk_len (bfill t) l j (by omega)
    have hj' : j < ((l.map (bfill t)).take j ++ l.drop j).length := by omega
    simp only [levels_fill.l0]
    rw [if_pos (by omega), if_pos (by omega), if_pos (by omega), rdB_at hj', walk_get (bfill t) l hjl hj']
    rw [Refill_ok k (by omega) (hv _ (List.getElem_mem hjl)) ht]
    simp only [Option.bind_some, Int.toNat_natCast]
    have e := set_walk (bfill t) l hjl
    unfold bfill at e
    rw [wj (by omega)]
    refine Eq.trans ?_ (ih (j + 1) k (by omega) (by omega))
    congr 1
theorem fill_row {l : List S51} {t : Int} (ht : U64 t) (hn : l.length ≤ 1000000) (hv : ∀ x ∈ l, bV x) (k : Nat) (hk : l.length + 25 ≤ k) : levels_fill.f k l t = some (l.map (bfill t)) := by
  unfold levels_fill.f
  rw [clone_ok hn]
  simp only [Option.bind_some]
  have e := fill_loop l t ht hn hv l.length 0 k (by omega) hk
  rw [List.take_zero, List.drop_zero, List.nil_append] at e
  exact e
def lHolds (l : List S51) (c : Int) : Bool := !(l.any fun b => decide (b.f1 < c))
theorem lHolds_iff {l : List S51} {c : Int} : lHolds l c = true ↔ ∀ x ∈ l, c ≤ x.f1 := by
  unfold lHolds
  rw [Bool.not_eq_true', List.any_eq_false]
  constructor
  · intro h x hx
    have := h x hx
    rw [decide_eq_true_iff] at this
    omega
  · intro h x hx
    have := h x hx
    rw [decide_eq_true_iff]
    omega
theorem holds_row (l : List S51) (c : Int) : levels_holds.f l c = some (lHolds l c) := rfl
def lTake (l : List S51) (t c : Int) : List S51 × Bool := if lHolds (l.map (bfill t)) c = true then ((l.map (bfill t)).map (bsub c), true) else (l.map (bfill t), false)
theorem bsub_wrap {c : Int} {x : S51} (h : bV x) (h0 : 0 ≤ c) (h1 : c ≤ x.f1) : wrap64 (x.f1 - c) = x.f1 - c := by
  obtain ⟨⟨_, _, _⟩, _, _, _⟩ := h
  exact wrap64_id (by omega) (by omega)
theorem take_loop (l : List S51) (c : Int) (h0 : 0 ≤ c) (hn : l.length ≤ 1000000) (hv : ∀ x ∈ l, bV x) (hc : ∀ x ∈ l, c ≤ x.f1) : ∀ (d j k : Nat), j + d = l.length → d + 1 ≤ k → levels_take.l0 k c ((l.map (bsub c)).take j ++ l.drop j) (l.length : Int) (j : Int) = some (l.map (bsub c), true) := by
  intro d
  induction d with
  | zero =>
    intro j k hj hk
    obtain ⟨k, rfl⟩ : ∃ m, k = m + 1 := ⟨k - 1, by omega⟩
    simp only [levels_take.l0]
    rw [if_neg (by omega), List.drop_eq_nil_of_le (by omega), List.take_of_length_le (by rw [List.length_map]; omega), List.append_nil]
  | succ d ih =>
    intro j k hj hk
    obtain ⟨k, rfl⟩ : ∃ m, k = m + 1 := ⟨k - 1, by omega⟩
    have hjl : j < l.length := by omega
    have hlen := walk_len (bsub c) l j (by omega)
    have hj' : j < ((l.map (bsub c)).take j ++ l.drop j).length := by omega
    simp only [levels_take.l0]
    rw [if_pos (by omega), if_pos (by omega), if_pos (by omega), rdB_at hj', walk_get (bsub c) l hjl hj', bsub_wrap (hv _ (List.getElem_mem hjl)) h0 (hc _ (List.getElem_mem hjl))]
    simp only [Int.toNat_natCast]
    have e := set_walk (bsub c) l hjl
    unfold bsub at e
    rw [wj (by omega)]
    refine Eq.trans ?_ (ih (j + 1) k (by omega) (by omega))
    congr 1
theorem map_valid {l : List S51} {t : Int} (ht : U64 t) (hv : ∀ x ∈ l, bV x) : ∀ x ∈ l.map (bfill t), bV x := by
  intro x hx
  obtain ⟨y, hy, rfl⟩ := List.mem_map.1 hx
  exact bfill_valid (hv y hy) ht
theorem take_row {l : List S51} {t c : Int} (ht : U64 t) (h0 : 0 ≤ c) (hn : l.length ≤ 1000000) (hv : ∀ x ∈ l, bV x) (k : Nat) (hk : l.length + 25 ≤ k) : levels_take.f k l t c = some (lTake l t c) := by
  unfold levels_take.f
  rw [fill_row ht hn hv k hk]
  simp only [Option.bind_some]
  rw [holds_row]
  simp only [Option.bind_some]
  unfold lTake
  by_cases g : lHolds (l.map (bfill t)) c = true
  · rw [if_pos g, if_pos g]
    have e := take_loop (l.map (bfill t)) c h0 (by rw [List.length_map]; exact hn) (map_valid ht hv) (lHolds_iff.1 g) (l.map (bfill t)).length 0 k (by omega) (by rw [List.length_map]; omega)
    rw [List.take_zero, List.drop_zero, List.nil_append] at e
    exact e
  · rw [if_neg g, if_neg g]
/-! #### the least level -/
theorem Take_row {l : List S51} {t c : Int} (hv : lV l) (ht : U64 t) (h0 : 0 ≤ c) (k : Nat) (hk : 60 ≤ k) : levels_Take.f k l t c = some ((lTake l t c).1, (lTake l t c).2, 0) := by
  unfold levels_Take.f
  rw [check_ok hv [c] (by simp) k (by simp; omega) (by simpa using h0)]
  simp only [Option.bind_some, ↓reduceIte]
  rw [take_row ht h0 (by have := hv.1; omega) hv.2 k (by have := hv.1; omega)]
  rfl
section
variable {b r p l q s t u c : Int}
/-- The parts of a bucket, refilled at t. -/
def fA (b r p l q s t : Int) : Int := fL b r p l q s t * p + fP b r p l q s t
theorem fA_eq (hv : VB b r p l q s) : fA b r p l q s t = if t ≤ s then l * p + q else if l * p + q + (t - s) * r < b * p then l * p + q + (t - s) * r else b * p := by
  unfold fA
  by_cases h : t ≤ s
  · rw [if_pos h]
    unfold fL fP
    rw [if_pos h, if_pos h]
  · rw [if_neg h]
    obtain ⟨f1, f2⟩ := fill_amt hv (by omega : s ≤ t)
    by_cases g : l * p + q + (t - s) * r < b * p
    · rw [if_pos g, f1 g]
    · rw [if_neg g]
      obtain ⟨e1, e2⟩ := f2 (by omega)
      rw [e1, e2]
      omega
theorem amt_le (hv : VB b r p l q s) : 0 ≤ l * p + q ∧ l * p + q ≤ b * p := by
  obtain ⟨⟨b0, b1, r0, r1, p0, p1⟩, l0, l1, q0, q1, hf, hs⟩ := hv
  have h0 := Int.mul_nonneg l0 (by omega : 0 ≤ p)
  rcases Int.lt_or_le l b with g | g
  · have := Int.mul_le_mul_of_nonneg_right (by omega : l + 1 ≤ b) (by omega : 0 ≤ p)
    rw [Int.add_mul, Int.one_mul] at this
    omega
  · have e : l = b := by omega
    subst e
    have := hf rfl
    omega
/-- Level and Part are known by the parts. -/
theorem of_fA {b' r' l' q' s' t' : Int} (hv : VB b r p l q s) (hv' : VB b' r' p l' q' s') (ht : U64 t) (ht' : U64 t') (h : fA b r p l q s t = fA b' r' p l' q' s' t') : fL b r p l q s t = fL b' r' p l' q' s' t' ∧ fP b r p l q s t = fP b' r' p l' q' s' t' := by
  obtain ⟨_, _, _, a0, a1, _⟩ := fill_valid hv ht
  obtain ⟨_, _, _, b0, b1, _⟩ := fill_valid hv' ht'
  exact amt_inj a0 a1 b0 b1 h
theorem fill_fill (hv : VB b r p l q s) (hu : U64 u) (ht : U64 t) (h : u ≤ t) :
    fL b r p (fL b r p l q s u) (fP b r p l q s u) (fT s u) t = fL b r p l q s t ∧ fP b r p (fL b r p l q s u) (fP b r p l q s u) (fT s u) t = fP b r p l q s t ∧ fT (fT s u) t = fT s t := by
  have hw := fill_valid hv hu
  have e3 : fT (fT s u) t = fT s t := by unfold fT; split <;> split <;> (try split) <;> omega
  have key : fA b r p (fL b r p l q s u) (fP b r p l q s u) (fT s u) t = fA b r p l q s t := by
    rw [fA_eq hw, fA_eq hv]
    have e : fL b r p l q s u * p + fP b r p l q s u = fA b r p l q s u := rfl
    rw [e, fA_eq hv]
    have r0 := hv.1.2.2.1
    by_cases c1 : u ≤ s
    · have e2 : fT s u = s := by unfold fT; rw [if_pos c1]
      rw [if_pos c1, e2]
    · have e2 : fT s u = u := by unfold fT; rw [if_neg c1]
      rw [if_neg c1, e2]
      have m1 : (t - s) * r = (u - s) * r + (t - u) * r := by rw [← Int.add_mul]; congr 1; omega
      have m2 := Int.mul_nonneg (by omega : 0 ≤ t - u) r0
      have m3 := Int.mul_nonneg (by omega : 0 ≤ u - s) r0
      by_cases c2 : t ≤ u
      · have e4 : t = u := by omega
        subst e4
        rw [if_pos (Int.le_refl _), if_neg c1]
      · rw [if_neg c2, if_neg (show ¬ t ≤ s by omega)]
        split <;> split <;> (try split) <;> omega
  obtain ⟨e1, e2⟩ := of_fA hw hv ht ht key
  exact ⟨e1, e2, e3⟩
/-- A bucket holds a cost exactly if its parts are enough. -/
theorem fL_iff (hv : VB b r p l q s) (ht : U64 t) : c ≤ fL b r p l q s t ↔ c * p ≤ fA b r p l q s t := by
  obtain ⟨⟨_, _, _, _, p0, _⟩, _, _, a0, a1, _⟩ := fill_valid hv ht
  unfold fA
  constructor
  · intro h
    have := Int.mul_le_mul_of_nonneg_right h (by omega : 0 ≤ p)
    omega
  · intro h
    rcases Int.lt_or_le (fL b r p l q s t) c with g | g
    · have := Int.mul_le_mul_of_nonneg_right (by omega : fL b r p l q s t + 1 ≤ c) (by omega : 0 ≤ p)
      rw [Int.add_mul, Int.one_mul] at this
      omega
    · exact g
end
/-- The parts of a bucket, refilled at t. -/
def bA (t : Int) (x : S51) : Int := fA x.f0.f0 x.f0.f1 x.f0.f2 x.f1 x.f2 x.f3 t
theorem bfill_fill {x : S51} {u t : Int} (hv : bV x) (hu : U64 u) (ht : U64 t) (h : u ≤ t) : bfill t (bfill u x) = bfill t x := by
  obtain ⟨e1, e2, e3⟩ := fill_fill hv hu ht h
  unfold bfill
  simp only
  rw [e1, e2, e3]
/-- The bucket holds the cost, refilled at t. -/
def bH (c t : Int) (x : S51) : Prop := c ≤ (bfill t x).f1
theorem bH_iff {x : S51} {c t : Int} (hv : bV x) (ht : U64 t) : bH c t x ↔ c * x.f0.f2 ≤ bA t x := fL_iff hv ht
/-! #### what a bucket holds behind charges -/
def full40 (t : Int) (x : S49) : S51 := ⟨x, x.f0, 0, t⟩
/-- The bucket behind the charges a, the last of them first. -/
def stc (t0 : Int) (x : S49) : List S62 → S51
  | [] => full40 t0 x
  | z :: a => bsub z.f1 (bfill z.f0 (stc t0 x a))
def lastT (t0 : Int) : List S62 → Int
  | [] => t0
  | z :: _ => z.f0
/-- Charges, the last first, each held and in order of time. -/
def held (l : List S49) (t0 : Int) : List S62 → Prop
  | [] => True
  | z :: a => held l t0 a ∧ U64 z.f0 ∧ 0 ≤ z.f1 ∧ lastT t0 a ≤ z.f0 ∧ ∀ x ∈ l, bH z.f1 z.f0 (stc t0 x a)
theorem stc_lim (t0 : Int) (x : S49) (a : List S62) : (stc t0 x a).f0 = x := by
  induction a with
  | nil => rfl
  | cons z a ih => exact ih
theorem bfill_late {t : Int} {y : S51} (h : t ≤ y.f3) : bfill t y = y := by
  unfold bfill fL fP fT
  rw [if_pos h, if_pos h, if_pos h]
theorem bfill_at (t : Int) (y : S51) : t ≤ (bfill t y).f3 := by
  show t ≤ fT y.f3 t
  unfold fT
  split <;> omega
theorem stc_ok {l : List S49} {t0 : Int} {x : S49} (hl : ∀ x ∈ l, lO x) (hx : x ∈ l) (u0 : U64 t0) : ∀ a, held l t0 a → bV (stc t0 x a) ∧ (stc t0 x a).f3 = lastT t0 a := by
  intro a
  induction a with
  | nil => exact fun _ => ⟨full_valid (hl x hx) u0, rfl⟩
  | cons z a ih =>
    rintro ⟨h1, h2, h3, h4, h5⟩
    obtain ⟨i1, i2⟩ := ih h1
    refine ⟨bsub_valid (bfill_valid i1 h2) h3 (h5 x hx), ?_⟩
    show fT (stc t0 x a).f3 z.f0 = z.f0
    rw [i2]
    unfold fT
    split <;> omega
theorem bA_thr {y : S51} {t s : Int} (hv : bV y) (h : y.f3 ≤ t) : s ≤ bA t y ↔ s ≤ y.f0.f0 * y.f0.f2 ∧ s ≤ y.f1 * y.f0.f2 + y.f2 + (t - y.f3) * y.f0.f1 := by
  unfold bA
  rw [fA_eq hv]
  obtain ⟨a0, a1⟩ := amt_le hv
  have m := Int.mul_nonneg (by omega : 0 ≤ t - y.f3) hv.1.2.2.1
  by_cases c : t ≤ y.f3
  · have e : t = y.f3 := by omega
    rw [if_pos c, e, Int.sub_self, Int.zero_mul]
    omega
  · rw [if_neg c]
    split <;> omega
def okP (x : S49) (t : Int) : Int → List S62 → Prop
  | _, [] => True
  | s, z :: a => s + z.f1 * x.f2 ≤ x.f0 * x.f2 + (t - z.f0) * x.f1 ∧ okP x t (s + z.f1 * x.f2) a
theorem okP_shift (x : S49) (t t' : Int) : ∀ (a : List S62) (s : Int), okP x t' (s - (t - t') * x.f1) a ↔ okP x t s a := by
  intro a
  induction a with
  | nil => exact fun s => Iff.rfl
  | cons z a ih =>
    intro s
    unfold okP
    rw [← ih (s + z.f1 * x.f2), show s - (t - t') * x.f1 + z.f1 * x.f2 = s + z.f1 * x.f2 - (t - t') * x.f1 by omega]
    have e : (t - z.f0) * x.f1 = (t - t') * x.f1 + (t' - z.f0) * x.f1 := by rw [← Int.add_mul]; congr 1; omega
    rw [e]
    constructor
    · exact fun h => ⟨by omega, h.2⟩
    · exact fun h => ⟨by omega, h.2⟩
theorem bA_stc {l : List S49} {t0 : Int} {x : S49} (hl : ∀ x ∈ l, lO x) (hx : x ∈ l) (u0 : U64 t0) : ∀ (a : List S62) (t s : Int), held l t0 a → lastT t0 a ≤ t → (s ≤ bA t (stc t0 x a) ↔ s ≤ x.f0 * x.f2 ∧ okP x t s a) := by
  intro a
  induction a with
  | nil =>
    intro t s ha ht
    obtain ⟨v, f⟩ := stc_ok hl hx u0 [] ha
    have m := Int.mul_nonneg (show 0 ≤ t - t0 by have : lastT t0 [] = t0 := rfl; omega) (hl x hx).2.2.1
    rw [bA_thr v (by rw [f]; exact ht)]
    unfold okP
    show (s ≤ x.f0 * x.f2 ∧ s ≤ x.f0 * x.f2 + 0 + (t - t0) * x.f1) ↔ _
    exact ⟨fun h => ⟨h.1, trivial⟩, fun h => ⟨h.1, by omega⟩⟩
  | cons z a ih =>
    intro t s ha ht
    obtain ⟨v, f⟩ := stc_ok hl hx u0 (z :: a) ha
    obtain ⟨h1, h2, h3, h4, h5⟩ := ha
    rw [bA_thr v (by rw [f]; exact ht), stc_lim, f]
    have e : (stc t0 x (z :: a)).f1 * x.f2 + (stc t0 x (z :: a)).f2 = bA z.f0 (stc t0 x a) - z.f1 * x.f2 := by
      have e1 : bA z.f0 (stc t0 x a) = (bfill z.f0 (stc t0 x a)).f1 * (stc t0 x a).f0.f2 + (bfill z.f0 (stc t0 x a)).f2 := rfl
      rw [e1, stc_lim]
      show ((bfill z.f0 (stc t0 x a)).f1 - z.f1) * x.f2 + (bfill z.f0 (stc t0 x a)).f2 = _
      rw [Int.sub_mul]
      omega
    rw [e]
    have i := ih z.f0 (s + z.f1 * x.f2 - (t - z.f0) * x.f1) h1 h4
    rw [okP_shift] at i
    unfold okP
    show (s ≤ x.f0 * x.f2 ∧ s ≤ bA z.f0 (stc t0 x a) - z.f1 * x.f2 + (t - z.f0) * x.f1) ↔ _
    rw [show s ≤ bA z.f0 (stc t0 x a) - z.f1 * x.f2 + (t - z.f0) * x.f1 ↔ s + z.f1 * x.f2 - (t - z.f0) * x.f1 ≤ bA z.f0 (stc t0 x a) by omega, i]
    exact ⟨fun h => ⟨h.1, by omega, h.2.2⟩, fun h => ⟨h.1, by omega, h.2.2⟩⟩
/-! #### below the curve -/
def okB (l : List S49) (t : Int) : Int → List S62 → Bool
  | _, [] => true
  | s, z :: a => decide (s + z.f1 ≤ cVal l (t - z.f0)) && okB l t (s + z.f1) a
theorem bq_iff {x : S49} (h : lO x) {s n : Int} : s ≤ bq n x ↔ s * x.f2 ≤ x.f0 * x.f2 + n * x.f1 := by
  have p0 : 0 < x.f2 := by have := h.2.2.2.2.1; omega
  unfold bq
  have e := Int.le_ediv_iff_mul_le (a := s - x.f0) (b := n * x.f1) p0
  rw [Int.sub_mul] at e
  exact ⟨fun h => by have := e.1 (by omega); omega, fun h => by have := e.2 (by omega); omega⟩
theorem okB_iff {l : List S49} (hl : ∀ x ∈ l, lO x) (t : Int) : ∀ (a : List S62) (s : Int), (∀ z ∈ a, z.f1 ≤ 1000000000) → s + (a.length : Int) * 1000000000 ≤ 1000000000000 → (okB l t s a = true ↔ ∀ x ∈ l, okP x t (s * x.f2) a) := by
  intro a
  induction a with
  | nil => exact fun s _ _ => ⟨fun _ x _ => trivial, fun _ => rfl⟩
  | cons z a ih =>
    intro s hz hs
    have z1 := hz z List.mem_cons_self
    rw [List.length_cons] at hs
    have i := ih (s + z.f1) (fun w hw => hz w (List.mem_cons_of_mem _ hw)) (by omega)
    unfold okB okP
    rw [Bool.and_eq_true, decide_eq_true_iff, i, le_cVal hl]
    constructor
    · rintro ⟨⟨_, h1⟩, h2⟩ x hx
      rw [← Int.add_mul]
      exact ⟨(bq_iff (hl x hx)).1 (h1 x hx), h2 x hx⟩
    · intro h
      refine ⟨⟨by omega, fun x hx => ?_⟩, fun x hx => ?_⟩
      · have := (h x hx).1
        rw [← Int.add_mul] at this
        exact (bq_iff (hl x hx)).2 this
      · have := (h x hx).2
        rw [← Int.add_mul] at this
        exact this
theorem hold_iff {l : List S49} {t0 : Int} (hl : ∀ x ∈ l, lO x) (u0 : U64 t0) (z : S62) (a : List S62) (ha : held l t0 a) (hz : ∀ w ∈ z :: a, w.f1 ≤ 1000000000) (hn : a.length ≤ 60) (uz : U64 z.f0) (ht : lastT t0 a ≤ z.f0) :
    (∀ x ∈ l, bH z.f1 z.f0 (stc t0 x a)) ↔ okB l z.f0 0 (z :: a) = true := by
  rw [okB_iff hl z.f0 (z :: a) 0 hz (by rw [List.length_cons]; omega)]
  have e : ∀ x ∈ l, (bH z.f1 z.f0 (stc t0 x a) ↔ okP x z.f0 (0 * x.f2) (z :: a)) := by
    intro x hx
    obtain ⟨v, f⟩ := stc_ok hl hx u0 a ha
    rw [bH_iff v uz, stc_lim, bA_stc hl hx u0 a z.f0 _ ha ht]
    show _ ↔ (0 * x.f2 + z.f1 * x.f2 ≤ x.f0 * x.f2 + (z.f0 - z.f0) * x.f1 ∧ okP x z.f0 (0 * x.f2 + z.f1 * x.f2) a)
    rw [Int.sub_self, Int.zero_mul, Int.zero_mul, Int.zero_add, Int.add_zero]
  exact ⟨fun h x hx => (e x hx).1 (h x hx), fun h x hx => (e x hx).2 (h x hx)⟩
/-- What passes of cs behind a: the last first. -/
def adm (l : List S49) : List S62 → List S62 → List S62
  | a, [] => a
  | a, z :: cs => if okB l z.f0 0 (z :: a) = true then adm l (z :: a) cs else adm l a cs
def conf (l : List S49) : List S62 → Bool
  | [] => true
  | z :: a => okB l z.f0 0 (z :: a) && conf l a
theorem adm_conf (l : List S49) : ∀ (cs a : List S62), conf l a = true → conf l (adm l a cs) = true := by
  intro cs
  induction cs with
  | nil => exact fun a h => h
  | cons z cs ih =>
    intro a h
    unfold adm
    split
    · rename_i g
      exact ih _ (by unfold conf; rw [Bool.and_eq_true]; exact ⟨g, h⟩)
    · exact ih _ h
theorem conf_tail (l : List S49) : ∀ (u v : List S62), conf l (u ++ v) = true → conf l v = true := by
  intro u
  induction u with
  | nil => exact fun v h => h
  | cons z u ih =>
    intro v h
    rw [List.cons_append] at h
    unfold conf at h
    rw [Bool.and_eq_true] at h
    exact ih v h.2
theorem adm_sub (l : List S49) : ∀ (cs a : List S62), List.Sublist (adm l a cs).reverse (a.reverse ++ cs) := by
  intro cs
  induction cs with
  | nil => intro a; rw [List.append_nil]; exact List.Sublist.refl _
  | cons z cs ih =>
    intro a
    unfold adm
    split
    · have h := ih (z :: a)
      rw [List.reverse_cons, List.append_assoc, List.singleton_append] at h
      exact h
    · exact (ih a).trans (List.Sublist.append (List.Sublist.refl _) (List.sublist_cons_self z cs))
/-! #### the first that is too much -/
theorem take_rev {c : List S62} {m : Nat} (h : m < c.length) : (c.take (m + 1)).reverse = c[m] :: (c.take m).reverse := by
  rw [← take_push c h, List.reverse_append]
  rfl
theorem fI_none (l : List S49) (c : List S62) (i : Nat) : ∀ (m : Nat) (s : Int), m ≤ c.length → (fI l c i s m = none ↔ okB l (rd_T62 c (i : Int)).f0 s (c.take m).reverse = true) := by
  intro m
  induction m with
  | zero => exact fun s _ => ⟨fun _ => rfl, fun _ => rfl⟩
  | succ m ih =>
    intro s h
    have hm : m < c.length := by omega
    rw [take_rev hm]
    unfold fI okB
    rw [rdC_at hm, Bool.and_eq_true, decide_eq_true_iff, ← ih _ (by omega)]
    split
    · exact ⟨fun h => by simp at h, fun h => by omega⟩
    · exact ⟨fun h => ⟨by omega, h⟩, fun h => h.2⟩
theorem fO_none (l : List S49) (c : List S62) : ∀ (d i : Nat), i + d = c.length → (fO l c d i = none ↔ ∀ j, i ≤ j → j < c.length → okB l (rd_T62 c (j : Int)).f0 0 (c.take (j + 1)).reverse = true) := by
  intro d
  induction d with
  | zero => exact fun i h => ⟨fun _ j h1 h2 => by omega, fun _ => rfl⟩
  | succ d ih =>
    intro i h
    unfold fO
    have e := fI_none l c i (i + 1) 0 (by omega)
    cases g : fI l c i 0 (i + 1) with
    | none =>
      rw [g] at e
      have e0 := e.1 rfl
      simp only
      rw [ih (i + 1) (by omega)]
      constructor
      · intro h j h1 h2
        by_cases c : j = i
        · rw [c]; exact e0
        · exact h j (by omega) h2
      · exact fun h j h1 h2 => h j (by omega) h2
    | some q =>
      rw [g] at e
      simp only
      exact ⟨fun h => by simp at h, fun h => absurd (e.2 (h i (by omega) (by omega))) (by simp)⟩
theorem conf_take (l : List S49) (c : List S62) : ∀ m, m ≤ c.length → (conf l (c.take m).reverse = true ↔ ∀ j, j < m → okB l (rd_T62 c (j : Int)).f0 0 (c.take (j + 1)).reverse = true) := by
  intro m
  induction m with
  | zero => exact fun _ => ⟨fun _ j h => by omega, fun _ => rfl⟩
  | succ m ih =>
    intro h
    have hm : m < c.length := by omega
    rw [take_rev hm]
    unfold conf
    rw [Bool.and_eq_true, ih (by omega)]
    constructor
    · rintro ⟨h1, h2⟩ j hj
      by_cases g : j = m
      · rw [g, rdC_at hm, take_rev hm]
        exact h1
      · exact h2 j (by omega)
    · intro h
      refine ⟨?_, fun j hj => h j (by omega)⟩
      have := h m (by omega)
      rw [rdC_at hm, take_rev hm] at this
      exact this
theorem first_conf (l : List S49) (c : List S62) : fO l c c.length 0 = none ↔ conf l c.reverse = true := by
  have h := conf_take l c c.length (Nat.le_refl _)
  rw [List.take_length] at h
  rw [fO_none l c c.length 0 (by omega), h]
  exact ⟨fun h j hj => h j (by omega) hj, fun h j _ hj => h j hj⟩
/-! #### the package's walks -/
theorem build_loop (l : List S49) (c : List S62) (hl : ∀ x ∈ l, lO x) (hn : l.length ≤ 1000000) (h0 : 0 < c.length) : ∀ (d j k : Nat), j + d = l.length → d + 1 ≤ k →
    curve_Pass.l0 k c ((l.map (full40 (rd_T62 c 0).f0)).take j) l (l.length : Int) (j : Int) = curve_Pass.l1 (k - d - 1) (l.map (full40 (rd_T62 c 0).f0)) [] c (c.length : Int) 0 := by
  intro d
  induction d with
  | zero =>
    intro j k hj hk
    obtain ⟨k, rfl⟩ : ∃ m, k = m + 1 := ⟨k - 1, by omega⟩
    simp only [curve_Pass.l0]
    rw [if_neg (by omega), List.take_of_length_le (by rw [List.length_map]; omega)]
    rfl
  | succ d ih =>
    intro j k hj hk
    obtain ⟨k, rfl⟩ : ∃ m, k = m + 1 := ⟨k - 1, by omega⟩
    have hjl : j < l.length := by omega
    have hjm : j < (l.map (full40 (rd_T62 c 0).f0)).length := by rw [List.length_map]; exact hjl
    simp only [curve_Pass.l0]
    rw [if_pos (by omega), if_pos (by omega), if_pos (by omega), if_pos (by omega), rdL_at hjl, Full_ok (hl _ (List.getElem_mem hjl))]
    simp only [Option.bind_some, ↓reduceIte]
    rw [if_pos (by rw [List.length_take]; omega), wj (by omega)]
    have e := take_push (l.map (full40 (rd_T62 c 0).f0)) hjm
    rw [List.getElem_map] at e
    have i := ih (j + 1) k (by omega) (by omega)
    rw [← e] at i
    rw [show k + 1 - (d + 1) - 1 = k - d - 1 by omega, ← i]
    rfl
theorem map_fill {l : List S49} {t0 u t : Int} (hl : ∀ x ∈ l, lO x) (u0 : U64 t0) (uu : U64 u) (ut : U64 t) (h : u ≤ t) (a : List S62) (ha : held l t0 a) :
    (l.map (fun x => bfill u (stc t0 x a))).map (bfill t) = l.map (fun x => bfill t (stc t0 x a)) := by
  rw [List.map_map]
  refine List.map_congr_left fun x hx => ?_
  exact bfill_fill (stc_ok hl hx u0 a ha).1 uu ut h
theorem pass_loop (l : List S49) (c : List S62) (hl : cC l) (hc : cO c) (hu : ∀ x ∈ c, U64 x.f0) (t0 : Int) (u0 : U64 t0) : ∀ (d j k : Nat) (a : List S62) (u : Int), j + d = c.length → d + 70 ≤ k → held l t0 a → a.length ≤ j → (∀ w ∈ a, w.f1 ≤ 1000000000) → U64 u → lastT t0 a ≤ u → (∀ q : Nat, j ≤ q → q < c.length → u ≤ (rd_T62 c (q : Int)).f0) →
    curve_Pass.l1 k (l.map (fun x => bfill u (stc t0 x a))) a.reverse c (c.length : Int) (j : Int) = some ((adm l a (c.drop j)).reverse, 0) := by
  have h60 := hc.1
  obtain ⟨l6, l0, lv⟩ := hl
  intro d
  induction d with
  | zero =>
    intro j k a u hj hk ha hal haw uu hlu hq
    obtain ⟨k, rfl⟩ : ∃ m, k = m + 1 := ⟨k - 1, by omega⟩
    simp only [curve_Pass.l1]
    rw [if_neg (by omega), List.drop_eq_nil_of_le (by omega)]
    rfl
  | succ d ih =>
    intro j k a u hj hk ha hal haw uu hlu hq
    obtain ⟨k, rfl⟩ : ∃ m, k = m + 1 := ⟨k - 1, by omega⟩
    have hjl : j < c.length := by omega
    have ut := hu _ (List.getElem_mem hjl)
    have cc := hc.2.1 _ (List.getElem_mem hjl)
    have hut := hq j (by omega) hjl
    rw [rdC_at hjl] at hut
    have hrow : lV (l.map (fun x => bfill u (stc t0 x a))) := ⟨by rw [List.length_map]; omega, fun y hy => by
      obtain ⟨x, hx, rfl⟩ := List.mem_map.1 hy
      exact bfill_valid (stc_ok lv hx u0 a ha).1 uu⟩
    simp only [curve_Pass.l1]
    rw [if_pos (by omega), if_pos (by omega), if_pos (by omega), rdC_at hjl, cdrop hjl, wj (by omega), Take_row hrow ut cc.1 k (by omega)]
    simp only [Option.bind_some, ↓reduceIte]
    unfold lTake
    rw [map_fill lv u0 uu ut hut a ha]
    have hq' : ∀ q : Nat, j + 1 ≤ q → q < c.length → c[j].f0 ≤ (rd_T62 c (q : Int)).f0 := fun q h1 h2 => by
      rw [← rdC_at hjl]
      exact hc.2.2 j q (by omega) h2
    have hw : ∀ w ∈ c[j] :: a, w.f1 ≤ 1000000000 := fun w hw => by
      rcases List.mem_cons.1 hw with e | e
      · rw [e]; exact cc.2
      · exact haw w e
    have hi := hold_iff lv u0 c[j] a ha hw (by omega) ut (by omega)
    have hh : lHolds (l.map (fun x => bfill c[j].f0 (stc t0 x a))) c[j].f1 = true ↔ okB l c[j].f0 0 (c[j] :: a) = true := by
      rw [lHolds_iff, ← hi]
      constructor
      · exact fun h x hx => h _ (List.mem_map.2 ⟨x, hx, rfl⟩)
      · intro h y hy
        obtain ⟨x, hx, rfl⟩ := List.mem_map.1 hy
        exact h x hx
    unfold adm
    by_cases g : okB l c[j].f0 0 (c[j] :: a) = true
    · rw [if_pos (hh.2 g), if_pos g]
      simp only [↓reduceIte]
      rw [if_pos (by rw [List.length_reverse]; omega)]
      have i := ih (j + 1) k (c[j] :: a) c[j].f0 (by omega) (by omega) ⟨ha, ut, cc.1, by omega, hi.2 g⟩ (by rw [List.length_cons]; omega) hw ut (Int.le_refl _) hq'
      rw [List.reverse_cons] at i
      rw [← i]
      congr 1
      rw [List.map_map]
      refine List.map_congr_left fun x hx => ?_
      exact (bfill_late (y := stc t0 x (c[j] :: a)) (bfill_at _ _)).symm
    · rw [if_neg (fun h => g (hh.1 h)), if_neg g]
      simp only [Bool.false_eq_true, ↓reduceIte]
      exact ih (j + 1) k a c[j].f0 (by omega) (by omega) ha (by omega) haw ut (by omega) hq'
theorem Pass_ok {l : List S49} {c : List S62} (hl : cC l) (hc : cO c) (hu : ∀ x ∈ c, U64 x.f0) (k : Nat) (hk : 400 ≤ k) : curve_Pass.f k l c = some ((adm l [] c).reverse, 0) := by
  have h60 := hc.1
  obtain ⟨c1, c2⟩ := cCheck_ok hl k (by omega)
  obtain ⟨x, hx, h0, _⟩ := Charges_eq c (by omega)
  obtain ⟨x1, x2⟩ := hx k (by omega)
  rw [h0.2 hc] at x1
  unfold curve_Pass.f curve_both.f
  rw [c1]
  simp only [Option.bind_some, ↓reduceIte]
  rw [x1]
  simp only [Option.bind_some, ↓reduceIte]
  obtain ⟨k, rfl⟩ : ∃ m, k = m + 1 := ⟨k - 1, by omega⟩
  simp only [curve_Pass.j0]
  by_cases z : c.length = 0
  · rw [if_pos (by rw [beq_iff_eq]; omega), List.eq_nil_of_length_eq_zero z]
    rfl
  · rw [if_neg (by rw [beq_iff_eq]; omega)]
    obtain ⟨l6, l0, lv⟩ := hl
    have b := build_loop l c lv (by omega) (by omega) l.length 0 k (by omega) (by omega)
    rw [List.take_zero] at b
    refine b.trans ?_
    have hz : 0 < c.length := by omega
    have e0 : rd_T62 c 0 = c[0] := rdC_at hz
    rw [e0]
    have u0 := hu _ (List.getElem_mem hz)
    have p := pass_loop l c ⟨l6, l0, lv⟩ hc hu c[0].f0 u0 c.length 0 (k - l.length - 1) [] c[0].f0 (by omega) (by omega) trivial (by simp) (fun w hw => by cases hw) u0 (Int.le_refl _) (fun q _ h2 => by have := hc.2.2 0 q (by omega) h2; rw [← e0]; exact this)
    rw [List.drop_zero, List.reverse_nil] at p
    refine Eq.trans ?_ p
    congr 1
    exact List.map_congr_left fun x _ => (bfill_late (y := full40 c[0].f0 x) (Int.le_refl _)).symm
/-! #### comparing -/
theorem cO_sub {c c' : List S62} (hc : cO c) (h : List.Sublist c' c) : cO c' := by
  obtain ⟨h1, h2, h3⟩ := hc
  have hp : c.Pairwise (fun x y => x.f0 ≤ y.f0) := by
    rw [List.pairwise_iff_getElem]
    intro i j hi hj hij
    have := h3 i j (by omega) hj
    rw [rdC_at hi, rdC_at hj] at this
    exact this
  have hp' := hp.sublist h
  rw [List.pairwise_iff_getElem] at hp'
  refine ⟨Nat.le_trans h.length_le h1, fun x hx => h2 x (h.subset hx), fun a b hab hb => ?_⟩
  rw [rdC_at hb, rdC_at (by omega : a < c'.length)]
  by_cases e : a = b
  · subst e; exact Int.le_refl _
  · exact hp' a b (by omega) hb (by omega)
theorem Below_ok {l : List S49} {c : List S62} (hl : cC l) (hc : cO c) (hu : ∀ x ∈ c, U64 x.f0) (k : Nat) (hk : 4500 ≤ k) : curve_Below.f k l c = some (conf l c.reverse, 0) := by
  unfold curve_Below.f
  rw [(first_ok hl hc hu k hk).1]
  have h := first_conf l c
  cases g : fO l c c.length 0 with
  | none =>
    rw [g] at h
    rw [h.1 rfl]
    rfl
  | some q =>
    rw [g] at h
    have : conf l c.reverse = false := by
      cases e : conf l c.reverse with
      | true => exact absurd (h.2 e) (by simp)
      | false => rfl
    rw [this]
    obtain ⟨i, j⟩ := q
    rfl
def sumC : List S62 → Int
  | [] => 0
  | x :: a => x.f1 + sumC a
theorem sumC_app (b : List S62) : ∀ a, sumC (a ++ b) = sumC a + sumC b := by
  intro a
  induction a with
  | nil => show sumC b = 0 + sumC b; omega
  | cons x a ih => show x.f1 + sumC (a ++ b) = x.f1 + sumC a + sumC b; omega
theorem sumC_rev (a : List S62) : sumC a.reverse = sumC a := by
  induction a with
  | nil => rfl
  | cons x a ih =>
    rw [List.reverse_cons, sumC_app, ih]
    show sumC a + (x.f1 + 0) = x.f1 + sumC a
    omega
theorem sumC_bnd : ∀ (a : List S62), (∀ x ∈ a, 0 ≤ x.f1 ∧ x.f1 ≤ 1000000000) → 0 ≤ sumC a ∧ sumC a ≤ (a.length : Int) * 1000000000 := by
  intro a
  induction a with
  | nil => exact fun _ => ⟨Int.le_refl _, by simp [sumC]⟩
  | cons x a ih =>
    intro h
    have h1 := h x List.mem_cons_self
    have h2 := ih fun y hy => h y (List.mem_cons_of_mem _ hy)
    rw [List.length_cons]
    show 0 ≤ x.f1 + sumC a ∧ x.f1 + sumC a ≤ _
    omega
/-- s is put together of a and b. -/
def inter : List S62 → List S62 → List S62 → Prop
  | [], a, b => a = [] ∧ b = []
  | z :: s, a, b => (∃ a', a = z :: a' ∧ inter s a' b) ∨ (∃ b', b = z :: b' ∧ inter s a b')
theorem inter_left : ∀ a : List S62, inter a a [] := by
  intro a
  induction a with
  | nil => exact ⟨rfl, rfl⟩
  | cons x a ih => exact .inl ⟨a, rfl, ih⟩
theorem inter_right : ∀ a : List S62, inter a [] a := by
  intro a
  induction a with
  | nil => exact ⟨rfl, rfl⟩
  | cons x a ih => exact .inr ⟨a, rfl, ih⟩
theorem inter_mrg : ∀ (n : Nat) (a b : List S62), a.length + b.length = n → inter (mrg a b) a b := by
  intro n
  induction n with
  | zero =>
    intro a b h
    have e1 : a = [] := List.eq_nil_of_length_eq_zero (by omega)
    have e2 : b = [] := List.eq_nil_of_length_eq_zero (by omega)
    subst e1
    subst e2
    rw [nil_mrg]
    exact ⟨rfl, rfl⟩
  | succ n ih =>
    intro a b h
    cases a with
    | nil => rw [nil_mrg]; exact inter_right b
    | cons x a =>
      cases b with
      | nil => rw [mrg_nil]; exact inter_left _
      | cons y b =>
        simp only [List.length_cons] at h
        by_cases c : y.f0 < x.f0
        · rw [mrg_lt c]
          exact .inr ⟨b, rfl, ih _ _ (by simp only [List.length_cons]; omega)⟩
        · rw [mrg_ge (by omega)]
          exact .inl ⟨a, rfl, ih _ _ (by simp only [List.length_cons]; omega)⟩
theorem inter_split (t : List S62) : ∀ (s a b : List S62), inter (s ++ t) a b → ∃ a1 a2 b1 b2, a = a1 ++ a2 ∧ b = b1 ++ b2 ∧ inter s a1 b1 ∧ inter t a2 b2 := by
  intro s
  induction s with
  | nil => exact fun a b h => ⟨[], a, [], b, rfl, rfl, ⟨rfl, rfl⟩, h⟩
  | cons z s ih =>
    intro a b h
    rw [List.cons_append] at h
    rcases h with ⟨a', rfl, h⟩ | ⟨b', rfl, h⟩
    · obtain ⟨a1, a2, b1, b2, rfl, rfl, h1, h2⟩ := ih _ _ h
      exact ⟨z :: a1, a2, b1, b2, rfl, rfl, .inl ⟨a1, rfl, h1⟩, h2⟩
    · obtain ⟨a1, a2, b1, b2, rfl, rfl, h1, h2⟩ := ih _ _ h
      exact ⟨a1, a2, z :: b1, b2, rfl, rfl, .inr ⟨b1, rfl, h1⟩, h2⟩
theorem inter_sum : ∀ (s a b : List S62), inter s a b → sumC s = sumC a + sumC b := by
  intro s
  induction s with
  | nil =>
    rintro a b ⟨rfl, rfl⟩
    rfl
  | cons z s ih =>
    intro a b h
    rcases h with ⟨a', rfl, h⟩ | ⟨b', rfl, h⟩
    · have := ih _ _ h
      show z.f1 + sumC s = z.f1 + sumC a' + sumC b
      omega
    · have := ih _ _ h
      show z.f1 + sumC s = sumC a + (z.f1 + sumC b')
      omega
theorem inter_mem : ∀ (s a b : List S62), inter s a b → (∀ x ∈ a, x ∈ s) ∧ (∀ x ∈ b, x ∈ s) := by
  intro s
  induction s with
  | nil =>
    rintro a b ⟨rfl, rfl⟩
    exact ⟨fun x h => h, fun x h => h⟩
  | cons z s ih =>
    intro a b h
    rcases h with ⟨a', rfl, h⟩ | ⟨b', rfl, h⟩
    · obtain ⟨h1, h2⟩ := ih _ _ h
      refine ⟨fun x hx => ?_, fun x hx => List.mem_cons_of_mem _ (h2 x hx)⟩
      rcases List.mem_cons.1 hx with e | e
      · rw [e]; exact List.mem_cons_self
      · exact List.mem_cons_of_mem _ (h1 x e)
    · obtain ⟨h1, h2⟩ := ih _ _ h
      refine ⟨fun x hx => List.mem_cons_of_mem _ (h1 x hx), fun x hx => ?_⟩
      rcases List.mem_cons.1 hx with e | e
      · rw [e]; exact List.mem_cons_self
      · exact List.mem_cons_of_mem _ (h2 x e)
/-! #### a part of charges below a curve -/
theorem okB_pre {l : List S49} {t : Int} {w : S62} {v : List S62} : ∀ (u : List S62) (s : Int), okB l t s (u ++ w :: v) = true → s + sumC u + w.f1 ≤ cVal l (t - w.f0) := by
  intro u
  induction u with
  | nil =>
    intro s h
    rw [List.nil_append] at h
    unfold okB at h
    rw [Bool.and_eq_true, decide_eq_true_iff] at h
    show s + 0 + w.f1 ≤ _
    omega
  | cons x u ih =>
    intro s h
    rw [List.cons_append] at h
    unfold okB at h
    rw [Bool.and_eq_true] at h
    have := ih _ h.2
    show s + (x.f1 + sumC u) + w.f1 ≤ _
    omega
theorem okB_left {l : List S49} {t : Int} {v : List S62} : ∀ (u : List S62) (s : Int), okB l t s (u ++ v) = true → okB l t s u = true := by
  intro u
  induction u with
  | nil => exact fun s _ => rfl
  | cons x u ih =>
    intro s h
    rw [List.cons_append] at h
    unfold okB at h ⊢
    rw [Bool.and_eq_true] at h ⊢
    exact ⟨h.1, ih _ h.2⟩
theorem conf_left {l : List S49} {v : List S62} : ∀ (u : List S62), conf l (u ++ v) = true → conf l u = true := by
  intro u
  induction u with
  | nil => exact fun _ => rfl
  | cons x u ih =>
    intro h
    rw [List.cons_append] at h
    unfold conf at h ⊢
    rw [Bool.and_eq_true] at h ⊢
    rw [← List.cons_append] at h
    exact ⟨okB_left _ _ h.1, ih h.2⟩
theorem conf_seg {l : List S49} (x a y : List S62) (w z : S62) (a0 a1 : List S62) (h : conf l (x ++ a ++ y).reverse = true) (e1 : a = w :: a0) (e2 : a = a1 ++ [z]) : sumC a ≤ cVal l (z.f0 - w.f0) := by
  rw [List.reverse_append, List.reverse_append] at h
  have g := conf_tail l _ _ h
  have r1 : a.reverse = a0.reverse ++ [w] := by rw [e1, List.reverse_cons]
  have r2 : a.reverse = z :: a1.reverse := by rw [e2, List.reverse_append]; rfl
  have g2 : okB l z.f0 0 (a.reverse ++ x.reverse) = true := by
    rw [r2, List.cons_append] at g ⊢
    unfold conf at g
    rw [Bool.and_eq_true] at g
    exact g.1
  rw [r1, List.append_assoc, List.singleton_append] at g2
  have := okB_pre _ _ g2
  rw [sumC_rev] at this
  have e : sumC a = w.f1 + sumC a0 := by rw [e1]; rfl
  omega
theorem cVal_mono {l : List S49} (hl : ∀ x ∈ l, lO x) {n n' : Int} (h : n ≤ n') : cVal l n ≤ cVal l n' := by
  obtain ⟨g1, g2⟩ := (le_cVal hl n (cVal l n)).1 (Int.le_refl _)
  refine (le_cVal hl n' (cVal l n)).2 ⟨g1, fun x hx => Int.le_trans (g2 x hx) ?_⟩
  obtain ⟨a0, a1, a2, a3, a4, a5⟩ := hl x hx
  have := div_mono (by omega : 0 < x.f2) (Int.mul_le_mul_of_nonneg_right h a2)
  unfold bq
  omega
theorem cVal_bnd {l : List S49} (hl : ∀ x ∈ l, lO x) {n : Int} (h : 0 ≤ n) : 0 ≤ cVal l n ∧ cVal l n ≤ 1000000000000 := by
  refine ⟨(le_cVal hl n 0).2 ⟨by omega, fun x hx => ?_⟩, ((le_cVal hl n (cVal l n)).1 (Int.le_refl _)).1⟩
  obtain ⟨a0, a1, a2, a3, a4, a5⟩ := hl x hx
  have := div_nonneg (Int.mul_nonneg h a2) (by omega : 0 < x.f2)
  unfold bq
  omega
theorem seg_bnd {l : List S49} (hl : ∀ x ∈ l, lO x) (x a y : List S62) (h : conf l (x ++ a ++ y).reverse = true) {lo hi : Int} (hh : lo ≤ hi) (hm : ∀ z ∈ a, lo ≤ z.f0 ∧ z.f0 ≤ hi) : sumC a ≤ cVal l (hi - lo) := by
  cases e1 : a with
  | nil => exact (cVal_bnd hl (by omega)).1
  | cons w a0 =>
    obtain ⟨a1, z, e2, _⟩ := snoc_of (A := a) (n := a0.length) (by rw [e1, List.length_cons])
    have g := conf_seg x a y w z a0 a1 h e1 e2
    have hw := hm w (by rw [e1]; exact List.mem_cons_self)
    have hz := hm z (by rw [e2]; exact List.mem_append_right _ List.mem_cons_self)
    rw [← e1]
    exact Int.le_trans g (cVal_mono hl (by omega))
/-! #### two of them, joined -/
theorem joined_bnd {l m : List S49} (hl : ∀ x ∈ l, lO x) (hm : ∀ x ∈ m, lO x) {c p : List S62} (h1 : conf l c.reverse = true) (h2 : conf m p.reverse = true) (u s v : List S62) (e : mrg c p = u ++ (s ++ v)) {lo hi : Int} (hh : lo ≤ hi) (hs : ∀ z ∈ s, lo ≤ z.f0 ∧ z.f0 ≤ hi) : sumC s ≤ cVal l (hi - lo) + cVal m (hi - lo) := by
  have i := inter_mrg _ c p rfl
  rw [e] at i
  obtain ⟨c1, c2, p1, p2, rfl, rfl, _, i2⟩ := inter_split _ _ _ _ i
  obtain ⟨c2, c3, p2, p3, rfl, rfl, i3, _⟩ := inter_split _ _ _ _ i2
  obtain ⟨m1, m2⟩ := inter_mem _ _ _ i3
  rw [← List.append_assoc] at h1 h2
  have b1 := seg_bnd hl c1 c2 c3 h1 hh (fun z hz => hs z (m1 z hz))
  have b2 := seg_bnd hm p1 p2 p3 h2 hh (fun z hz => hs z (m2 z hz))
  have := inter_sum _ _ _ i3
  omega
theorem cO_of_srt {c : List S62} (h1 : c.length ≤ 60) (h2 : ∀ x ∈ c, 0 ≤ x.f1 ∧ x.f1 ≤ 1000000000) (h3 : srt c) : cO c := by
  refine ⟨h1, h2, fun a b hab hb => ?_⟩
  rw [rdS_at (by omega : a < c.length), rdS_at hb]
  exact srt_le h3 hab hb
theorem cO_mrg {a b : List S62} (ha : cO a) (hb : cO b) (h : a.length + b.length ≤ 60) : cO (mrg a b) := by
  refine cO_of_srt (by rw [mrg_len _ _ _ rfl]; exact h) (fun x hx => ?_) (mrg_srt _ _ _ rfl (cO_srt ha) (cO_srt hb))
  rcases mrg_mem _ _ _ rfl x hx with e | e
  · exact ha.2.1 x e
  · exact hb.2.1 x e
/-! #### where they leave it -/
theorem drop_rev {c : List S62} {m q : Nat} (h : m < c.length) (hq : q ≤ m) : ((c.take (m + 1)).drop q).reverse = c[m] :: ((c.take m).drop q).reverse := by
  rw [← take_push c h, List.drop_append_of_le_length (by rw [List.length_take]; omega), List.reverse_append]
  rfl
theorem fI_some (l : List S49) (c : List S62) (i j : Nat) : ∀ (m : Nat) (s : Int), m ≤ c.length → fI l c i s m = some j → j < m ∧ okB l (rd_T62 c (i : Int)).f0 s ((c.take m).drop (j + 1)).reverse = true ∧ okB l (rd_T62 c (i : Int)).f0 s ((c.take m).drop j).reverse = false := by
  intro m
  induction m with
  | zero =>
    intro s _ h
    unfold fI at h
    exact absurd h (by simp)
  | succ m ih =>
    intro s hm h
    have hml : m < c.length := by omega
    unfold fI at h
    rw [rdC_at hml] at h
    by_cases g : s + c[m].f1 > cVal l ((rd_T62 c (i : Int)).f0 - c[m].f0)
    · rw [if_pos g] at h
      obtain rfl := Option.some.inj h
      refine ⟨by omega, ?_, ?_⟩
      · rw [List.drop_eq_nil_of_le (by rw [List.length_take]; omega)]
        rfl
      · rw [drop_rev hml (Nat.le_refl _)]
        unfold okB
        rw [Bool.and_eq_false_iff]
        exact .inl (by rw [decide_eq_false_iff_not]; omega)
    · rw [if_neg g] at h
      obtain ⟨h1, h2, h3⟩ := ih _ (by omega) h
      refine ⟨by omega, ?_, ?_⟩
      · rw [drop_rev hml (by omega)]
        unfold okB
        rw [Bool.and_eq_true]
        exact ⟨by rw [decide_eq_true_iff]; omega, h2⟩
      · rw [drop_rev hml (by omega)]
        unfold okB
        rw [Bool.and_eq_false_iff]
        exact .inr h3
theorem fO_some (l : List S49) (c : List S62) (a b : Nat) : ∀ (d i : Nat), i + d = c.length → fO l c d i = some (a, b) → i ≤ b ∧ b < c.length ∧ fI l c b 0 (b + 1) = some a ∧ ∀ q, i ≤ q → q < b → fI l c q 0 (q + 1) = none := by
  intro d
  induction d with
  | zero =>
    intro i _ h
    unfold fO at h
    exact absurd h (by simp)
  | succ d ih =>
    intro i hi h
    unfold fO at h
    cases g : fI l c i 0 (i + 1) with
    | some j =>
      rw [g] at h
      simp only [Option.some.injEq, Prod.mk.injEq] at h
      obtain ⟨rfl, rfl⟩ := h
      exact ⟨Nat.le_refl _, by omega, g, fun q h1 h2 => by omega⟩
    | none =>
      rw [g] at h
      simp only at h
      obtain ⟨h1, h2, h3, h4⟩ := ih (i + 1) (by omega) h
      refine ⟨by omega, h2, h3, fun q q1 q2 => ?_⟩
      by_cases e : q = i
      · rw [e]; exact g
      · exact h4 q (by omega) q2
theorem leave {l : List S49} {c : List S62} {a b : Nat} (h : fO l c c.length 0 = some (a, b)) : a ≤ b ∧ b < c.length ∧ conf l (c.take b).reverse = true ∧ conf l ((c.take (b + 1)).drop (a + 1)).reverse = true ∧ conf l ((c.take (b + 1)).drop a).reverse = false := by
  obtain ⟨_, hb, h1, h2⟩ := fO_some l c a b c.length 0 (by omega) h
  obtain ⟨g1, g2, g3⟩ := fI_some l c b a (b + 1) 0 (by omega) h1
  have before : conf l (c.take b).reverse = true := (conf_take l c b (by omega)).2 fun j hj => (fI_none l c j (j + 1) 0 (by omega)).1 (h2 j (by omega) hj)
  refine ⟨by omega, hb, before, ?_, ?_⟩
  · by_cases e : a = b
    · rw [List.drop_eq_nil_of_le (by rw [List.length_take]; omega)]
      rfl
    · rw [rdC_at hb, drop_rev hb (by omega)] at g2
      rw [drop_rev hb (by omega)]
      unfold conf
      rw [Bool.and_eq_true]
      refine ⟨g2, ?_⟩
      rw [← List.take_append_drop (a + 1) (c.take b), List.reverse_append] at before
      exact conf_left _ before
  · rw [rdC_at hb, drop_rev hb (by omega)] at g3
    rw [drop_rev hb (by omega)]
    unfold conf
    rw [g3]
    rfl
set_option maxRecDepth 1000000 in
theorem alive40p : spigotlaw40_alive.f 400010 = some true := by kernel_rfl
theorem great20 (l : List S49) (c : List S62) : ∃ b, spigotref40_Great.f l c = some b ∧ (b = true ∨ (c.length ≤ 100 ∧ (c.length ≤ 60 → c.length ≤ 20))) := by
  unfold spigotref40_Great.f
  by_cases h1 : (l.length : Int) > 20
  · rw [if_pos h1]
    exact ⟨true, rfl, .inl rfl⟩
  · rw [if_neg h1]
    by_cases h2 : (c.length : Int) > 20
    · rw [if_pos h2]
      by_cases h3 : (c.length : Int) ≤ 60
      · rw [if_pos h3]
        exact ⟨true, rfl, .inl rfl⟩
      · rw [if_neg h3]
        refine ⟨_, rfl, ?_⟩
        rw [decide_eq_true_iff]
        omega
    · rw [if_neg h2]
      refine ⟨_, rfl, ?_⟩
      rw [decide_eq_true_iff]
      omega
theorem seg_step {L : List S62} {i n : Nat} (h : i + n < L.length) : (L.drop i).take (n + 1) = (L.drop i).take n ++ [L[i + n]] := by
  have hn : n < (L.drop i).length := by rw [List.length_drop]; omega
  rw [← take_push (L.drop i) hn, List.getElem_drop]
theorem seg_at {L : List S62} {i n : Nat} : L = L.take i ++ ((L.drop i).take n ++ (L.drop i).drop n) := by
  rw [List.take_append_drop, List.take_append_drop]
theorem seg_mem {L : List S62} (hs : srt L) {i n : Nat} (h : i + n < L.length) : ∀ z ∈ (L.drop i).take (n + 1), (L[i]'(by omega)).f0 ≤ z.f0 ∧ z.f0 ≤ L[i + n].f0 := by
  intro z hz
  obtain ⟨q, hq, rfl⟩ := List.mem_iff_getElem.1 hz
  have hq' := hq
  rw [List.length_take, List.length_drop] at hq'
  rw [List.getElem_take, List.getElem_drop]
  exact ⟨srt_le hs (by omega) (by omega), srt_le hs (by omega) h⟩
theorem sums_loop {l m : List S49} (hl : cC l) (hm : cC m) {L : List S62} (h60 : L.length ≤ 60) (hc : ∀ x ∈ L, 0 ≤ x.f1 ∧ x.f1 ≤ 1000000000) (hu : ∀ x ∈ L, U64 x.f0) (hs : srt L)
    (H : ∀ (u s v : List S62), L = u ++ (s ++ v) → ∀ lo hi : Int, lo ≤ hi → (∀ z ∈ s, lo ≤ z.f0 ∧ z.f0 ≤ hi) → sumC s ≤ cVal l (hi - lo) + cVal m (hi - lo))
    (i : Nat) (hi : i < L.length) (K : Nat) (hK : 320 ≤ K) (hn : ∀ k, K ≤ k → spigotlaw40_CurveParts.l0 k l m true L ((i + 1 : Nat) : Int) = some true) :
    ∀ (d n k : Nat), i + n + d = L.length → K + d + 1 ≤ k → spigotlaw40_CurveParts.l1 k l m true L (i : Int) (sumC ((L.drop i).take n)) ((i + n : Nat) : Int) = some true := by
  intro d
  induction d with
  | zero =>
    intro n k h hk
    obtain ⟨k, rfl⟩ : ∃ q, k = q + 1 := ⟨k - 1, by omega⟩
    have b1 : ¬ (((i + n : Nat) : Int) < (L.length : Int)) := by omega
    have wi : wrap64 ((i : Int) + 1) = ((i + 1 : Nat) : Int) := wj1 (by omega)
    rw [spigotlaw40_CurveParts.l1, if_neg b1, wi]
    exact hn k (by omega)
  | succ d ih =>
    intro n k h hk
    obtain ⟨k, rfl⟩ : ∃ q, k = q + 1 := ⟨k - 1, by omega⟩
    have hin : i + n < L.length := by omega
    have b1 : (((i + n : Nat) : Int) < (L.length : Int)) := by omega
    have b2 : 0 ≤ ((i + n : Nat) : Int) := by omega
    have b3 : 0 ≤ (i : Int) := by omega
    have b4 : (i : Int) < (L.length : Int) := by omega
    have o : L[i].f0 ≤ L[i + n].f0 := srt_le hs (by omega) hin
    have u1 := hu _ (List.getElem_mem hi)
    have u2 := hu _ (List.getElem_mem hin)
    have un : U64 (L[i + n].f0 - L[i].f0) := by obtain ⟨_, _⟩ := u1; obtain ⟨_, _⟩ := u2; exact ⟨by omega, by omega⟩
    have a1 := (At_ok hl un k (by omega)).1
    have a2 := (At_ok hm un k (by omega)).1
    have v1 := cVal_bnd hl.2.2 (n := L[i + n].f0 - L[i].f0) (by omega)
    have v2 := cVal_bnd hm.2.2 (n := L[i + n].f0 - L[i].f0) (by omega)
    have e : sumC ((L.drop i).take (n + 1)) = sumC ((L.drop i).take n) + L[i + n].f1 := by
      rw [seg_step hin, sumC_app]
      show _ + (L[i + n].f1 + 0) = _
      omega
    have g := H (L.take i) ((L.drop i).take (n + 1)) ((L.drop i).drop (n + 1)) seg_at _ _ o (seg_mem hs hin)
    have sb := sumC_bnd ((L.drop i).take (n + 1)) (fun x hx => hc x (List.mem_of_mem_drop (List.mem_of_mem_take hx)))
    have lb : ((L.drop i).take (n + 1)).length ≤ 60 := by rw [List.length_take, List.length_drop]; omega
    have ws : wrap64 (sumC ((L.drop i).take n) + L[i + n].f1) = sumC ((L.drop i).take (n + 1)) := by
      rw [← e]
      exact wrap64_id (by omega) (by omega)
    have wv : wrap64 (cVal l (L[i + n].f0 - L[i].f0) + cVal m (L[i + n].f0 - L[i].f0)) = cVal l (L[i + n].f0 - L[i].f0) + cVal m (L[i + n].f0 - L[i].f0) := wrap64_id (by omega) (by omega)
    have b5 : ¬ (sumC ((L.drop i).take (n + 1)) > cVal l (L[i + n].f0 - L[i].f0) + cVal m (L[i + n].f0 - L[i].f0)) := by omega
    have wi : wrap64 (((i + n : Nat) : Int) + 1) = ((i + (n + 1) : Nat) : Int) := wj1 (by omega)
    have r1 := rdC_at hin
    have r2 := rdC_at hi
    have I := ih (n + 1) k (by omega) (by omega)
    rw [spigotlaw40_CurveParts.l1, if_pos b1, if_pos b2, if_pos b3, if_pos b4, r1, r2, wrap_id un, a1, Option.bind_some, a2, Option.bind_some, if_pos rfl, if_pos rfl, ws, wv, if_neg b5, wi]
    exact I
theorem pairs_loop {l m : List S49} (hl : cC l) (hm : cC m) {L : List S62} (h60 : L.length ≤ 60) (hc : ∀ x ∈ L, 0 ≤ x.f1 ∧ x.f1 ≤ 1000000000) (hu : ∀ x ∈ L, U64 x.f0) (hs : srt L)
    (H : ∀ (u s v : List S62), L = u ++ (s ++ v) → ∀ lo hi : Int, lo ≤ hi → (∀ z ∈ s, lo ≤ z.f0 ∧ z.f0 ≤ hi) → sumC s ≤ cVal l (hi - lo) + cVal m (hi - lo)) :
    ∀ (d i k : Nat), i + d = L.length → d * 64 + 330 ≤ k → spigotlaw40_CurveParts.l0 k l m true L (i : Int) = some true := by
  intro d
  induction d with
  | zero =>
    intro i k h hk
    obtain ⟨k, rfl⟩ : ∃ q, k = q + 1 := ⟨k - 1, by omega⟩
    have b1 : ¬ ((i : Int) < (L.length : Int)) := by omega
    rw [spigotlaw40_CurveParts.l0, if_neg b1]
  | succ d ih =>
    intro i k h hk
    obtain ⟨k, rfl⟩ : ∃ q, k = q + 1 := ⟨k - 1, by omega⟩
    have b1 : ((i : Int) < (L.length : Int)) := by omega
    have I := sums_loop hl hm h60 hc hu hs H i (by omega) (d * 64 + 330) (by omega) (fun k hk => ih (i + 1) k (by omega) hk) (L.length - i) 0 k (by omega) (by omega)
    rw [spigotlaw40_CurveParts.l0, if_pos b1]
    exact I
theorem parts_in {l m : List S49} (hl : cC l) (hm : cC m) {c d : List S62} (hc : cO c) (hd : cO d) (hu : ∀ x ∈ c, U64 x.f0) (hu' : ∀ x ∈ d, U64 x.f0) (c20 : c.length ≤ 20) (d20 : d.length ≤ 20) (cf : conf l c.reverse = true) (k : Nat) (hk : 400008 ≤ k) :
    spigotlaw40_CurveParts.j1 (k + 1) l m c d true 0 0 true false = some true := by
  have hs := adm_sub m d []
  rw [List.reverse_nil, List.nil_append] at hs
  have hp := cO_sub hd hs
  have hup : ∀ x ∈ (adm m [] d).reverse, U64 x.f0 := fun x hx => hu' x (hs.subset hx)
  have plen := hs.length_le
  have cp : conf m (adm m [] d).reverse.reverse = true := by
    rw [List.reverse_reverse]
    exact adm_conf m d [] rfl
  have p1 := Pass_ok hm hd hu' k (by omega)
  generalize (adm m [] d).reverse = p at hp hup plen cp p1
  have J := (join_ok hc hp (by omega) k (by omega)).1
  have hL := cO_mrg hc hp (by omega)
  have len : (mrg c p).length = c.length + p.length := mrg_len _ _ _ rfl
  obtain ⟨x, hx, x0, _⟩ := Charges_eq (mrg c p) (by omega)
  have q := (hx k (by omega)).2
  rw [x0.2 hL] at q
  have we : ((mrg c p).length : Int) = wrap64 ((c.length : Int) + (p.length : Int)) := by rw [wadd (by omega), len]
  have hul : ∀ x ∈ mrg c p, U64 x.f0 := fun x hx => by
    rcases mrg_mem _ _ _ rfl x hx with e | e
    · exact hu x e
    · exact hup x e
  have P := pairs_loop hl hm hL.1 hL.2.1 hul (cO_srt hL) (fun u s v e lo hi hh hz => joined_bnd hl.2.2 hm.2.2 cf cp u s v e hh hz) (mrg c p).length 0 k (by omega) (by omega)
  rw [spigotlaw40_CurveParts.j1, if_neg (by decide), if_pos rfl, p1, Option.bind_some, J, Option.bind_some, if_pos rfl, if_pos rfl, q, Option.bind_some, if_pos rfl, if_pos we]
  exact P
theorem parts_out {l m : List S49} (hl : cC l) {c d : List S62} (hc : cO c) (hu : ∀ x ∈ c, U64 x.f0) (c20 : c.length ≤ 20) {a b : Nat} (g : fO l c c.length 0 = some (a, b)) (k : Nat) (hk : 400008 ≤ k) :
    spigotlaw40_CurveParts.j1 (k + 1) l m c d true (a : Int) (b : Int) false ((0 : Int) != 0) = some true := by
  obtain ⟨hab, hb, g1, g2, g3⟩ := leave g
  have s1 : List.Sublist (c.take b) c := List.take_sublist _ _
  have s2 : List.Sublist ((c.take (b + 1)).drop (a + 1)) c := (List.drop_sublist _ _).trans (List.take_sublist _ _)
  have s3 : List.Sublist ((c.take (b + 1)).drop a) c := (List.drop_sublist _ _).trans (List.take_sublist _ _)
  have B1 := Below_ok hl (cO_sub hc s1) (fun x hx => hu x (s1.subset hx)) k (by omega)
  have B2 := Below_ok hl (cO_sub hc s2) (fun x hx => hu x (s2.subset hx)) k (by omega)
  have B3 := Below_ok hl (cO_sub hc s3) (fun x hx => hu x (s3.subset hx)) k (by omega)
  rw [g1] at B1
  rw [g2] at B2
  rw [g3] at B3
  have b1 : ¬ (a : Int) < 0 := by omega
  have b2 : ¬ (b : Int) < (a : Int) := by omega
  have b3 : ¬ (b : Int) ≥ (c.length : Int) := by omega
  have b4 : 0 ≤ (b : Int) := by omega
  have b5 : (b : Int) ≤ (c.length : Int) := by omega
  have b6 : 0 ≤ ((a + 1 : Nat) : Int) := by omega
  have b7 : ((a + 1 : Nat) : Int) ≤ ((b + 1 : Nat) : Int) := by omega
  have b8 : ((b + 1 : Nat) : Int) ≤ (c.length : Int) := by omega
  have b9 : 0 ≤ (a : Int) := by omega
  have b10 : (a : Int) ≤ ((b + 1 : Nat) : Int) := by omega
  have wa : wrap64 ((a : Int) + 1) = ((a + 1 : Nat) : Int) := wj1 (by omega)
  have wb : wrap64 ((b : Int) + 1) = ((b + 1 : Nat) : Int) := wj1 (by omega)
  rw [spigotlaw40_CurveParts.j1, if_neg (by decide), if_neg (by decide), if_neg b1, if_neg b2, if_neg b3, if_pos b4, if_pos b5, wa, wb, Int.toNat_natCast, Int.toNat_natCast, Int.toNat_natCast, Int.toNat_natCast, B1, Option.bind_some, if_pos b6, if_pos b7, if_pos b8, B2, Option.bind_some, if_pos b9, if_pos b10, B3, Option.bind_some, if_pos rfl, if_pos rfl, if_pos rfl, if_pos rfl, if_pos rfl, if_pos rfl]
  rfl
theorem CurveParts_pure (l m : List S49) (c d : List S62) (_ : l.length ≤ maxLen) (_ : ∀ x ∈ l, I64 x.f0 ∧ I64 x.f1 ∧ I64 x.f2) (_ : m.length ≤ maxLen) (_ : ∀ x ∈ m, I64 x.f0 ∧ I64 x.f1 ∧ I64 x.f2) (hcm : c.length ≤ maxLen) (hg : ∀ x ∈ c, U64 x.f0 ∧ I64 x.f1) (hdm : d.length ≤ maxLen) (hg' : ∀ x ∈ d, U64 x.f0 ∧ I64 x.f1) :
    ∃ k, spigotlaw40_CurveParts.f k l m c d = some true := by
  refine ⟨400010, ?_⟩
  have hu : ∀ x ∈ c, U64 x.f0 := fun x hx => (hg x hx).1
  have hu' : ∀ x ∈ d, U64 x.f0 := fun x hx => (hg' x hx).1
  have out : spigotlaw40_CurveParts.j0 400010 l m c d true true = some true := by
    rw [spigotlaw40_CurveParts.j0, if_pos rfl]
  obtain ⟨b, eb, hb⟩ := great20 l c
  obtain ⟨b', eb', hb'⟩ := great20 m d
  unfold spigotlaw40_CurveParts.f
  rw [alive40p, Option.bind_some, eb, Option.bind_some]
  by_cases b1 : b = true
  · rw [if_pos b1]
    exact out
  · rw [if_neg b1, eb', Option.bind_some]
    by_cases b2 : b' = true
    · rw [if_pos b2]
      exact out
    · rw [if_neg b2]
      by_cases hl : cC l
      · rw [(cCheck_ok hl 400010 (by omega)).2, Option.bind_some, if_pos rfl]
        by_cases hm : cC m
        · rw [(cCheck_ok hm 400010 (by omega)).2, Option.bind_some, if_pos rfl]
          have c100 := (hb.resolve_left b1).1
          have d100 := (hb'.resolve_left b2).1
          obtain ⟨x, hx, x0, _⟩ := Charges_eq c (by omega)
          obtain ⟨y, hy, y0, _⟩ := Charges_eq d (by omega)
          rw [(hx 400010 (by omega)).2, Option.bind_some]
          by_cases hc : cO c
          · rw [if_pos (x0.2 hc), (hy 400010 (by omega)).2, Option.bind_some]
            by_cases hd : cO d
            · rw [if_pos (y0.2 hd)]
              have c20 := (hb.resolve_left b1).2 hc.1
              have d20 := (hb'.resolve_left b2).2 hd.1
              have f1 := (first_ok hl hc hu 400009 (by omega)).1
              have f2 := Below_ok hl hc hu 400009 (by omega)
              have fc := first_conf l c
              rw [spigotlaw40_CurveParts.j0, if_neg (by decide), f1, Option.bind_some, f2, Option.bind_some, if_pos rfl]
              cases g : fO l c c.length 0 with
              | none =>
                have cf := fc.1 g
                rw [cf]
                show (if (true != ((6 : Int) == 6)) = true then none else if true = true then spigotlaw40_CurveParts.j1 400009 l m c d true 0 0 true false else spigotlaw40_CurveParts.j1 400009 l m c d true 0 0 true ((6 : Int) != 0)) = some true
                rw [if_neg (by decide), if_pos rfl]
                exact parts_in hl hm hc hd hu hu' c20 d20 cf 400008 (by omega)
              | some q =>
                obtain ⟨a, b⟩ := q
                have cf : conf l c.reverse = false := by
                  cases e : conf l c.reverse with
                  | true => exact absurd (fc.2 e) (by rw [g]; simp)
                  | false => rfl
                rw [cf]
                show (if (false != ((0 : Int) == 6)) = true then none else if false = true then spigotlaw40_CurveParts.j1 400009 l m c d true (a : Int) (b : Int) false false else spigotlaw40_CurveParts.j1 400009 l m c d true (a : Int) (b : Int) false ((0 : Int) != 0)) = some true
                rw [if_neg (by decide), if_neg (by decide)]
                exact parts_out hl hc hu c20 g 400008 (by omega)
            · rw [if_neg (fun h => hd (y0.1 h))]
              exact out
          · rw [if_neg (fun h => hc (x0.1 h))]
            exact out
        · obtain ⟨y, y0, _, h⟩ := cCheck_bad hm
          rw [(h 400010 (by omega)).2, Option.bind_some, if_neg y0]
          exact out
      · obtain ⟨y, y0, _, h⟩ := cCheck_bad hl
        rw [(h 400010 (by omega)).2, Option.bind_some, if_neg y0]
        exact out
end Go.Proofs.Ytimhghmfhfggoaa.X
