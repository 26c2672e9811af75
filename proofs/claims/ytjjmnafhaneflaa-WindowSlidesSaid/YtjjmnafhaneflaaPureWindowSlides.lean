/- WindowSlides, and what it needs. -/
import Derived.Test.YtjjmnafhaneflaaX0
import Derived.Test.YtjjmnafhaneflaaX4
import Derived.Test.YtjjmnafhaneflaaX5
import Derived.Test.YtjjmnafhaneflaaX6
import Derived.Test.YtjjmnafhaneflaaX9
import Derived.Test.YtjjmnafhaneflaaX10
import Derived.Test.YtjjmnafhaneflaaX13
import Derived.Test.YtjjmnafhaneflaaX14
import Derived.Test.YtjjmnafhaneflaaX18
import Derived.Test.YtjjmnafhaneflaaX21
import Derived.Test.YtjjmnafhaneflaaX23
import Derived.Test.YtjjmnafhaneflaaX25
import Derived.Test.YtjjmnafhaneflaaX26
import Derived.Test.YtjjmnafhaneflaaMath
namespace Go.Proofs.Ytjjmnafhaneflaa.X
open Go.RowKit Go.Proofs.YtjjmnafhaneflaaW.PrintWords Go.Proofs.YtjjmnafhaneflaaW.PrintLast Go.Proofs.YtjjmnafhaneflaaW.PrintMore
set_option linter.unusedVariables false
set_option linter.unusedSimpArgs false

theorem wj {j : Nat} (h : j < 9223372036854775807) : wrap64 ((j : Int) + 1) = ((j + 1 : Nat) : Int) := by unfold wrap64; omega
def okA (cap : Int) (same : Int → Int → Bool) : List S58 → List S58 → Prop
  | [], _ => True
  | x :: c, acc => x.f1 + sB (same x.f0) acc ≤ cap ∧ okA cap same c (x :: acc)
theorem adm_ok (cap : Int) (same : Int → Int → Bool) : ∀ (c acc : List S58), okA cap same (adm cap same c acc) acc
  | [], _ => trivial
  | x :: c, acc => by
    unfold adm
    by_cases h : x.f1 + sB (same x.f0) acc ≤ cap
    · rw [if_pos h]
      exact ⟨h, adm_ok cap same c (x :: acc)⟩
    · rw [if_neg h]
      exact adm_ok cap same c acc
theorem adm_len (cap : Int) (same : Int → Int → Bool) : ∀ (c acc : List S58), (adm cap same c acc).length ≤ c.length
  | [], _ => Nat.le_refl _
  | x :: c, acc => by
    unfold adm
    by_cases h : x.f1 + sB (same x.f0) acc ≤ cap
    · rw [if_pos h]
      have := adm_len cap same c (x :: acc)
      simp only [List.length_cons]
      omega
    · rw [if_neg h]
      have := adm_len cap same c acc
      simp only [List.length_cons]
      omega
theorem adm_all (cap : Int) (same : Int → Int → Bool) : ∀ (c acc : List S58), okA cap same c acc ↔ adm cap same c acc = c
  | [], _ => ⟨fun _ => rfl, fun _ => trivial⟩
  | x :: c, acc => by
    unfold adm okA
    by_cases h : x.f1 + sB (same x.f0) acc ≤ cap
    · rw [if_pos h, adm_all cap same c (x :: acc)]
      exact ⟨fun g => by rw [g.2], fun g => ⟨h, (List.cons.inj g).2⟩⟩
    · rw [if_neg h]
      refine ⟨fun g => absurd g.1 h, fun g => ?_⟩
      have := adm_len cap same c acc
      rw [g] at this
      simp only [List.length_cons] at this
      omega
theorem adm_sub (cap : Int) (same : Int → Int → Bool) : ∀ (c acc : List S58), (adm cap same c acc).Sublist c
  | [], _ => List.Sublist.refl _
  | x :: c, acc => by
    unfold adm
    by_cases h : x.f1 + sB (same x.f0) acc ≤ cap
    · rw [if_pos h]
      exact (adm_sub cap same c (x :: acc)).cons_cons x
    · rw [if_neg h]
      exact (adm_sub cap same c acc).cons x
/-! #### ticks in order -/
theorem sB_own {span : Int} (hs : 0 < span) (x : S58) (acc : List S58) : sB (inS span x.f0) (x :: acc) = x.f1 + sB (inS span x.f0) acc := by
  show (if inS span x.f0 x.f0 = true then _ else _) = _
  rw [if_pos (by unfold inS; rw [decide_eq_true_iff]; omega)]
theorem mx_le {a b k : Int} : mx a b ≤ k ↔ a ≤ k ∧ b ≤ k := by unfold mx; split <;> omega
theorem mostL_iff {span k : Int} (hs : 0 < span) : ∀ (c acc : List S58) (m : Int), mostL span c acc m ≤ k ↔ m ≤ k ∧ okA k (inS span) c acc
  | [], _, m => ⟨fun h => ⟨h, trivial⟩, fun h => h.1⟩
  | x :: c, acc, m => by
    unfold mostL okA
    rw [mostL_iff hs c (x :: acc), mx_le, sB_own hs]
    exact ⟨fun ⟨⟨a, b⟩, d⟩ => ⟨a, b, d⟩, fun ⟨a, b, d⟩ => ⟨⟨a, b⟩, d⟩⟩
def cR (x : S58) : Prop := U64 x.f0 ∧ I64 x.f1
theorem rdC_at {l : List S58} {j : Nat} (h : j < l.length) : rd_T58 l (j : Int) = l[j] := by
  unfold rd_T58
  rw [List.getD_eq_getElem?_getD, Int.toNat_natCast, List.getElem?_eq_getElem h]
  rfl
theorem dropC {l : List S58} {j : Nat} (h : j < l.length) : l.drop j = l[j] :: l.drop (j + 1) := List.drop_eq_getElem_cons h
abbrev okWin (a b : Int) : Prop := (1 ≤ a ∧ a ≤ 1000000000) ∧ 1 ≤ b ∧ b ≤ 1000000000
theorem wCheck (a b : Int) : window_Check.f a b = some (if okWin a b then 0 else 8) ∧ spigotref38_Check.f a b = some (if okWin a b then 0 else 8) := by
  have h : window_Check.f a b = some (if okWin a b then 0 else 8) := by
    unfold window_Check.f
    by_cases h1 : a < 1
    · rw [if_pos h1, if_neg (by unfold okWin; omega)]
    · rw [if_neg h1]
      by_cases h2 : a > 1000000000
      · rw [if_pos h2, if_neg (by unfold okWin; omega)]
      · rw [if_neg h2]
        by_cases h3 : b < 1
        · rw [if_pos h3, if_neg (by unfold okWin; omega)]
        · rw [if_neg h3]
          by_cases h4 : b > 1000000000
          · rw [if_pos h4, if_neg (by unfold okWin; omega)]
          · rw [if_neg h4, if_pos (by unfold okWin; omega)]
  exact ⟨h, h⟩
/-! #### charges -/
def badC (x : S58) : Bool := decide (x.f1 < 0) || decide (x.f1 > 1000000000)
def okU : Int → List S58 → Bool
  | _, [] => true
  | t, x :: l => decide (t ≤ x.f0) && okU x.f0 l
def chOf (l : List S58) : Int := if 60 < l.length then 4 else if l.any badC = true then 8 else if okU 0 l = true then 0 else 32
theorem okB_eq : ∀ (l : List S58) (t : Int), (∀ x ∈ l, cR x) → okB l t = (okU t l && !(l.any badC))
  | [], _, _ => rfl
  | x :: l, t, h => by
    have h1 := h x List.mem_cons_self
    have ih := okB_eq l x.f0 fun y hy => h y (List.mem_cons_of_mem _ hy)
    obtain ⟨⟨u0, u1⟩, _⟩ := h1
    unfold okB okU
    rw [ih, List.any_cons, decide_eq_true u1, Bool.true_and]
    unfold badC
    by_cases a : t ≤ x.f0
    · by_cases b : 0 ≤ x.f1
      · by_cases c : x.f1 ≤ 1000000000
        · rw [decide_eq_true a, decide_eq_true b, decide_eq_true c, decide_eq_false (show ¬ x.f1 < 0 by omega), decide_eq_false (show ¬ x.f1 > 1000000000 by omega)]
          simp
        · rw [decide_eq_false c, decide_eq_true (show x.f1 > 1000000000 by omega)]
          simp
      · rw [decide_eq_false b, decide_eq_true (show x.f1 < 0 by omega)]
        simp
    · rw [decide_eq_false a]
      simp
theorem chOf_zero {l : List S58} (h : ∀ x ∈ l, cR x) : chOf l = 0 ↔ l.length ≤ 60 ∧ okB l 0 = true := by
  rw [okB_eq l 0 h, Bool.and_eq_true, Bool.not_eq_true']
  unfold chOf
  by_cases a : 60 < l.length
  · rw [if_pos a]
    exact ⟨fun h => (by cases h), fun h => by omega⟩
  · rw [if_neg a]
    by_cases b : l.any badC = true
    · rw [if_pos b, b]
      exact ⟨fun h => (by cases h), fun h => by cases h.2.2⟩
    · rw [if_neg b]
      by_cases c : okU 0 l = true
      · rw [if_pos c]
        exact ⟨fun _ => ⟨by omega, c, Bool.eq_false_iff.2 b⟩, fun _ => rfl⟩
      · rw [if_neg c]
        exact ⟨fun h => (by cases h), fun h => absurd h.2.1 c⟩
theorem okU_of {x : S58} {l : List S58} (h : cR x) : okU 0 (x :: l) = okU x.f0 l := by
  show (decide (0 ≤ x.f0) && _) = _
  rw [decide_eq_true h.1.1, Bool.true_and]
theorem find_ok (l : List S58) (hl : l.length ≤ 1000) : ∀ (d j k : Nat), j + d = l.length → d + 1 ≤ k → ∃ i, slices_IndexFunc_api_Charge_c40.l0 k l (l.length : Int) (j : Int) = some i ∧ decide (i ≥ 0) = (l.drop j).any badC := by
  intro d
  induction d with
  | zero =>
    intro j k hj hk
    obtain ⟨k, rfl⟩ : ∃ m, k = m + 1 := ⟨k - 1, by omega⟩
    simp only [slices_IndexFunc_api_Charge_c40.l0]
    rw [if_neg (by omega), List.drop_eq_nil_of_le (by omega)]
    exact ⟨_, rfl, rfl⟩
  | succ d ih =>
    intro j k hj hk
    obtain ⟨k, rfl⟩ : ∃ m, k = m + 1 := ⟨k - 1, by omega⟩
    have hjl : j < l.length := by omega
    simp only [slices_IndexFunc_api_Charge_c40.l0]
    rw [if_pos (by omega), if_pos (by omega), if_pos (by omega), rdC_at hjl, dropC hjl, List.any_cons, wj (by omega)]
    have e : window_Charges_1.f l[j].f0 l[j].f1 = some (badC l[j]) := by
      unfold window_Charges_1.f badC
      by_cases a : l[j].f1 < 0
      · rw [if_pos a, decide_eq_true a, Bool.true_or]
      · rw [if_neg a, decide_eq_false a, Bool.false_or]
    rw [e]
    simp only [Option.bind_some]
    by_cases c : badC l[j] = true
    · rw [if_pos c, c, Bool.true_or]
      exact ⟨_, rfl, decide_eq_true (by omega)⟩
    · rw [if_neg c, Bool.eq_false_iff.2 c, Bool.false_or]
      exact ih (j + 1) k (by omega) (by omega)
theorem has_bad (l : List S58) (hl : l.length ≤ 1000) (a : Int) (k : Nat) (hk : l.length + 1 ≤ k) : slices_ContainsFunc_api_Charge_c40.f k l a = some (l.any badC) := by
  obtain ⟨i, e1, e2⟩ := find_ok l hl l.length 0 k (by omega) hk
  unfold slices_ContainsFunc_api_Charge_c40.f slices_IndexFunc_api_Charge_c40.f
  have e1' : slices_IndexFunc_api_Charge_c40.l0 k l (l.length : Int) 0 = some i := e1
  rw [e1']
  simp only [Option.bind_some]
  rw [e2]
  rfl
theorem sorted_w (l : List S58) (hl : l.length ≤ 1000) : ∀ (d j k : Nat), j + 1 + d = l.length → d + 1 ≤ k → ∀ (h : j < l.length), window_Charges.l0 k l (l.length : Int) ((j + 1 : Nat) : Int) = some (if okU l[j].f0 (l.drop (j + 1)) = true then 0 else 32) := by
  intro d
  induction d with
  | zero =>
    intro j k hj hk h
    obtain ⟨k, rfl⟩ : ∃ m, k = m + 1 := ⟨k - 1, by omega⟩
    simp only [window_Charges.l0]
    rw [if_neg (by omega), List.drop_eq_nil_of_le (by omega)]
    rfl
  | succ d ih =>
    intro j k hj hk h
    obtain ⟨k, rfl⟩ : ∃ m, k = m + 1 := ⟨k - 1, by omega⟩
    have hjl : j + 1 < l.length := by omega
    have e1 : wrap64 (((j + 1 : Nat) : Int) - 1) = (j : Int) := by unfold wrap64; omega
    simp only [window_Charges.l0]
    rw [if_pos (by omega), if_pos (by omega), if_pos (by omega), if_pos (by omega), e1, if_pos (by omega), if_pos (by omega), rdC_at hjl, rdC_at h, wj (by omega), dropC hjl]
    unfold okU
    by_cases c : l[j + 1].f0 < l[j].f0
    · rw [if_pos c, decide_eq_false (by omega), Bool.false_and, if_neg (by decide)]
    · rw [if_neg c, decide_eq_true (by omega), Bool.true_and]
      exact ih (j + 1) k (by omega) (by omega) hjl
theorem sorted_r (l : List S58) (hl : l.length ≤ 1000) : ∀ (d j k : Nat), j + 1 + d = l.length → d + 1 ≤ k → ∀ (h : j < l.length), spigotref38_Charges.l1 k l ((j + 1 : Nat) : Int) = some (if okU l[j].f0 (l.drop (j + 1)) = true then 0 else 32) := by
  intro d
  induction d with
  | zero =>
    intro j k hj hk h
    obtain ⟨k, rfl⟩ : ∃ m, k = m + 1 := ⟨k - 1, by omega⟩
    simp only [spigotref38_Charges.l1]
    rw [if_neg (by omega), List.drop_eq_nil_of_le (by omega)]
    rfl
  | succ d ih =>
    intro j k hj hk h
    obtain ⟨k, rfl⟩ : ∃ m, k = m + 1 := ⟨k - 1, by omega⟩
    have hjl : j + 1 < l.length := by omega
    have e1 : wrap64 (((j + 1 : Nat) : Int) - 1) = (j : Int) := by unfold wrap64; omega
    simp only [spigotref38_Charges.l1]
    rw [if_pos (by omega), if_pos (by omega), e1, if_pos (by omega), if_pos (by omega), rdC_at hjl, rdC_at h, wj (by omega), dropC hjl]
    unfold okU
    by_cases c : l[j + 1].f0 < l[j].f0
    · rw [if_pos c, decide_eq_false (by omega), Bool.false_and, if_neg (by decide)]
    · rw [if_neg c, decide_eq_true (by omega), Bool.true_and]
      exact ih (j + 1) k (by omega) (by omega) hjl
theorem wCharges (l : List S58) (hr : ∀ x ∈ l, cR x) (k : Nat) (hk : 70 ≤ k) : window_Charges.f k l = some (chOf l) := by
  unfold window_Charges.f chOf
  by_cases a : 60 < l.length
  · rw [if_pos (by omega), if_pos a]
  · rw [if_neg (by omega), if_neg a, has_bad l (by omega) 0 k (by omega)]
    simp only [Option.bind_some]
    by_cases b : l.any badC = true
    · rw [if_pos b, if_pos b]
    · rw [if_neg b, if_neg b]
      cases l with
      | nil =>
        obtain ⟨k, rfl⟩ : ∃ m, k = m + 1 := ⟨k - 1, by omega⟩
        simp only [window_Charges.l0]
        rw [if_neg (by simp)]
        rfl
      | cons x l =>
        obtain ⟨k, rfl⟩ : ∃ m, k = m + 1 := ⟨k - 1, by omega⟩
        rw [okU_of (hr x List.mem_cons_self)]
        have h := sorted_w (x :: l) (by omega) l.length 0 k (by simp; omega) (by simp at a; omega) (by simp)
        simp only [window_Charges.l0]
        rw [if_pos (by simp), if_neg (by omega), show wrap64 (0 + 1) = ((0 + 1 : Nat) : Int) by unfold wrap64; omega]
        exact h
theorem rcost_ok (l : List S58) (hl : l.length ≤ 1000) : ∀ (d j k : Nat), j + d = l.length → d + 1 ≤ k → ((l.drop j).any badC = true → spigotref38_Charges.l0 k l (j : Int) = some 8) ∧ ((l.drop j).any badC = false → spigotref38_Charges.l0 k l (j : Int) = spigotref38_Charges.l1 (k - d - 1) l 1) := by
  intro d
  induction d with
  | zero =>
    intro j k hj hk
    obtain ⟨k, rfl⟩ : ∃ m, k = m + 1 := ⟨k - 1, by omega⟩
    simp only [spigotref38_Charges.l0]
    rw [if_neg (by omega), List.drop_eq_nil_of_le (by omega)]
    exact ⟨fun h => (by cases h), fun _ => rfl⟩
  | succ d ih =>
    intro j k hj hk
    obtain ⟨k, rfl⟩ : ∃ m, k = m + 1 := ⟨k - 1, by omega⟩
    have hjl : j < l.length := by omega
    have i1 := ih (j + 1) k (by omega) (by omega)
    have ek : k + 1 - (d + 1) - 1 = k - d - 1 := by omega
    simp only [spigotref38_Charges.l0]
    rw [if_pos (by omega), if_pos (by omega), rdC_at hjl, dropC hjl, List.any_cons, wj (by omega), ek]
    unfold badC
    by_cases a : l[j].f1 < 0
    · rw [if_pos a, decide_eq_true a, Bool.true_or, Bool.true_or]
      exact ⟨fun _ => rfl, fun h => by cases h⟩
    · rw [if_neg a, decide_eq_false a, Bool.false_or]
      by_cases b : l[j].f1 > 1000000000
      · rw [if_pos b, decide_eq_true b, Bool.true_or]
        exact ⟨fun _ => rfl, fun h => by cases h⟩
      · rw [if_neg b, decide_eq_false b, Bool.false_or]
        exact i1
theorem rCharges (l : List S58) (hr : ∀ x ∈ l, cR x) (k : Nat) (hk : 130 ≤ k) : spigotref38_Charges.f k l = some (chOf l) := by
  unfold spigotref38_Charges.f chOf
  by_cases a : 60 < l.length
  · rw [if_pos (by omega), if_pos a]
  · rw [if_neg (by omega), if_neg a]
    obtain ⟨r1, r2⟩ := rcost_ok l (by omega) l.length 0 k (by omega) (by omega)
    rw [List.drop_zero] at r1 r2
    by_cases b : l.any badC = true
    · rw [if_pos b]
      exact r1 b
    · rw [if_neg b]
      have h := r2 (Bool.eq_false_iff.2 b)
      refine h.trans ?_
      obtain ⟨m, hm⟩ : ∃ m, k - l.length - 1 = m + 1 := ⟨k - l.length - 2, by omega⟩
      cases l with
      | nil =>
        rw [hm]
        simp only [spigotref38_Charges.l1]
        rw [if_neg (by simp)]
        rfl
      | cons x l =>
        rw [okU_of (hr x List.mem_cons_self)]
        exact sorted_r (x :: l) (by omega) l.length 0 _ (by simp; omega) (by simp at a ⊢; omega) (by simp)
theorem wBoth (a b : Int) (l : List S58) (hr : ∀ x ∈ l, cR x) (k : Nat) (hk : 70 ≤ k) : window_both.f k a b l = some (if okWin a b then chOf l else 8) := by
  unfold window_both.f
  rw [(wCheck a b).1]
  simp only [Option.bind_some]
  by_cases h : okWin a b
  · rw [if_pos h, if_pos rfl, wCharges l hr k hk, if_pos h]
    rfl
  · rw [if_neg h, if_neg (by decide), if_neg h]
/-! #### same lists -/
theorem same_ok (x y : List S58) (hl : x.length ≤ 1000) (k : Nat) (hk : x.length + 1 ≤ k) : ∃ b, spigotref38_Same.f k x y = some b ∧ (b = true ↔ x = y) := by
  unfold spigotref38_Same.f
  by_cases e : (x.length : Int) = (y.length : Int)
  · rw [if_pos e]
    have el : x.length = y.length := by omega
    have key : ∀ (d j k : Nat), j + d = x.length → d + 1 ≤ k → ∃ b, spigotref38_Same.l0 k x y (j : Int) = some b ∧ (b = true ↔ x.drop j = y.drop j) := by
      intro d
      induction d with
      | zero =>
        intro j k hj hk
        obtain ⟨k, rfl⟩ : ∃ m, k = m + 1 := ⟨k - 1, by omega⟩
        simp only [spigotref38_Same.l0]
        rw [if_neg (by omega), List.drop_eq_nil_of_le (by omega), List.drop_eq_nil_of_le (by omega)]
        exact ⟨true, rfl, fun _ => rfl, fun _ => rfl⟩
      | succ d ih =>
        intro j k hj hk
        obtain ⟨k, rfl⟩ : ∃ m, k = m + 1 := ⟨k - 1, by omega⟩
        have h1 : j < x.length := by omega
        have h2 : j < y.length := by omega
        simp only [spigotref38_Same.l0]
        rw [if_pos (by omega), if_pos (by omega), if_pos (by omega), rdC_at h1, rdC_at h2, dropC h1, dropC h2, wj (by omega)]
        by_cases c : x[j] = y[j]
        · rw [if_neg (by rw [c]; simp)]
          obtain ⟨b, e1, e2⟩ := ih (j + 1) k (by omega) (by omega)
          refine ⟨b, e1, ?_⟩
          rw [e2, c]
          exact ⟨fun h => by rw [h], fun h => (List.cons.inj h).2⟩
        · have hc : (!(x[j].f0 == y[j].f0) || !(x[j].f1 == y[j].f1)) = true := by
            rw [Bool.or_eq_true, Bool.not_eq_true', Bool.not_eq_true', beq_eq_false_iff_ne, beq_eq_false_iff_ne]
            by_cases c0 : x[j].f0 = y[j].f0
            · refine Or.inr fun c1 => c ?_
              cases hx : x[j]
              cases hy : y[j]
              rw [hx, hy] at c0 c1
              simp only at c0 c1
              rw [c0, c1]
            · exact Or.inl c0
          rw [if_pos hc]
          exact ⟨false, rfl, fun h => (by cases h), fun h => absurd (List.cons.inj h).1 c⟩
    obtain ⟨b, e1, e2⟩ := key x.length 0 k (by omega) hk
    rw [List.drop_zero, List.drop_zero] at e2
    exact ⟨b, e1, e2⟩
  · rw [if_neg e]
    exact ⟨false, rfl, fun h => (by cases h), fun h => absurd (by rw [h]) e⟩
theorem same_self (x : List S58) (hl : x.length ≤ 1000) (k : Nat) (hk : x.length + 1 ≤ k) : spigotref38_Same.f k x x = some true := by
  obtain ⟨b, e1, e2⟩ := same_ok x x hl k hk
  rw [e1, e2.2 rfl]
/-! #### parts of what is sorted -/
theorem okB_le : ∀ {l : List S58} {t u : Int}, t ≤ u → okB l u = true → okB l t = true
  | [], _, _, _, _ => rfl
  | x :: l, t, u, h, g => by
    simp only [okB, Bool.and_eq_true, decide_eq_true_eq] at g ⊢
    exact ⟨by omega, g.2⟩
theorem okB_sub {o l : List S58} (h : o.Sublist l) : ∀ {t : Int}, okB l t = true → okB o t = true := by
  induction h with
  | slnil => exact fun h => h
  | cons x _ ih =>
    intro t g
    simp only [okB, Bool.and_eq_true, decide_eq_true_eq] at g
    exact ih (okB_le g.1 g.2.2.2.2)
  | cons_cons x _ ih =>
    intro t g
    simp only [okB, Bool.and_eq_true, decide_eq_true_eq] at g ⊢
    exact ⟨g.1, g.2.1, g.2.2.1, g.2.2.2.1, ih g.2.2.2.2⟩
theorem okW_of {a b : Int} {l : List S58} (hw : okWin a b) (hl : l.length ≤ 60) (h : okB l 0 = true) : okW a b l = true := by
  unfold okW
  obtain ⟨⟨h1, h2⟩, h3, h4⟩ := hw
  rw [decide_eq_true h1, decide_eq_true h2, decide_eq_true h3, decide_eq_true h4, decide_eq_true (show l.length ≤ 1000 by omega), h]
  rfl
/-- What the package's functions answer, where the window and the charges are good. -/
theorem slide_ok {a b : Int} {l : List S58} (hr : ∀ x ∈ l, cR x) (hw : okWin a b) (hl : l.length ≤ 60) (h : okB l 0 = true) (k : Nat) (hk : 70 ≤ k) : window_Slide.f k a b l = some (adm a (inS b) l [], 0) := by
  unfold window_Slide.f
  rw [wBoth a b l hr k hk, if_pos hw, (chOf_zero hr).2 ⟨hl, h⟩]
  simp only [Option.bind_some]
  rw [if_pos (by simp), if_pos (okW_of hw hl h)]
theorem most_ok {a b : Int} {l : List S58} (hr : ∀ x ∈ l, cR x) (hw : okWin a b) (hl : l.length ≤ 60) (h : okB l 0 = true) (k : Nat) (hk : 70 ≤ k) : window_Most.f k a b l = some (mostL b l [] 0, 0) := by
  unfold window_Most.f
  rw [wBoth a b l hr k hk, if_pos hw, (chOf_zero hr).2 ⟨hl, h⟩]
  simp only [Option.bind_some]
  rw [if_pos (by simp), if_pos (okW_of hw hl h)]
set_option maxRecDepth 100000 in
theorem alive38_ : spigotlaw38_alive.f 100 = some true := by kernel_rfl
theorem alive38 (k : Nat) (hk : 100 ≤ k) : spigotlaw38_alive.f k = some true := up_ (fun k => spigotlaw38_alive.mono k) alive38_ k hk
theorem great38 (l : List S58) : ∃ b, spigotref38_Great.f l = some b ∧ (b = false → l.length ≤ 100) := by
  unfold spigotref38_Great.f
  by_cases a : (l.length : Int) > 25
  · rw [if_pos a]
    by_cases b : (l.length : Int) ≤ 60
    · rw [if_pos b]
      exact ⟨true, rfl, fun h => by cases h⟩
    · rw [if_neg b]
      exact ⟨_, rfl, fun h => by have := of_decide_eq_false h; omega⟩
  · rw [if_neg a]
    exact ⟨_, rfl, fun h => by have := of_decide_eq_false h; omega⟩
theorem WindowSlides_pure (a b : Int) (l : List S58) (_ : I64 a) (_ : I64 b) (_ : l.length ≤ maxLen) (hr : ∀ x ∈ l, U64 x.f0 ∧ I64 x.f1) : ∃ k, spigotlaw38_WindowSlides.f k a b l = some true := by
  refine ⟨202, ?_⟩
  have fin : spigotlaw38_WindowSlides.j0 202 l true true a b = some true := by simp only [spigotlaw38_WindowSlides.j0, ↓reduceIte]
  obtain ⟨g, eg, _⟩ := great38 l
  unfold spigotlaw38_WindowSlides.f
  rw [alive38 202 (by omega), eg]
  simp only [Option.bind_some]
  by_cases hg : g = true
  · rw [if_pos hg]
    exact fin
  · rw [if_neg hg, (wCheck a b).2]
    simp only [Option.bind_some]
    by_cases hw : okWin a b
    · rw [if_pos hw, if_pos rfl, rCharges l hr 202 (by omega)]
      simp only [Option.bind_some]
      by_cases hc : chOf l = 0
      · rw [if_pos hc]
        obtain ⟨h1, h2⟩ := (chOf_zero hr).1 hc
        have hs : 0 < b := by have := hw.2.1; omega
        have h0 : 0 ≤ a := by have := hw.1.1; omega
        obtain ⟨o, ho⟩ : ∃ o, o = adm a (inS b) l [] := ⟨_, rfl⟩
        have os : o.Sublist l := by rw [ho]; exact adm_sub _ _ _ _
        have ol := os.length_le
        have orr : ∀ x ∈ o, cR x := fun x hx => hr x (os.subset hx)
        have ob := okB_sub os h2
        have oa : okA a (inS b) o [] := by rw [ho]; exact adm_ok _ _ _ _
        obtain ⟨sb, s1, s2⟩ := same_ok o l (by omega) 201 (by omega)
        have e : (decide (mostL b l [] 0 ≤ a) == sb) = true := by
          have : mostL b l [] 0 ≤ a ↔ o = l := by
            rw [mostL_iff hs, ho, adm_all]
            exact ⟨fun h => h.2, fun h => ⟨h0, h⟩⟩
          by_cases c : o = l
          · rw [s2.2 c, decide_eq_true (this.2 c)]; rfl
          · rw [Bool.eq_false_iff.2 (fun h => c (s2.1 h)), decide_eq_false (fun h => c (this.1 h))]; rfl
        show spigotlaw38_WindowSlides.j0 202 l true false a b = some true
        simp only [spigotlaw38_WindowSlides.j0]
        rw [if_neg (by decide), slide_ok hr hw h1 h2 201 (by omega), ← ho]
        simp only [Option.bind_some, ↓reduceIte]
        rw [rCharges o orr 201 (by omega), (chOf_zero orr).2 ⟨by omega, ob⟩]
        simp only [Option.bind_some, ↓reduceIte]
        rw [if_neg (by omega), most_ok orr hw (by omega) ob 201 (by omega), most_ok hr hw h1 h2 201 (by omega), slide_ok orr hw (by omega) ob 201 (by omega), s1, (adm_all _ _ _ _).1 oa]
        simp only [Option.bind_some, ↓reduceIte]
        rw [if_pos ((mostL_iff hs o [] 0).2 ⟨h0, oa⟩), if_pos e, same_self o (by omega) 201 (by omega)]
        rfl
      · rw [if_neg hc]
        exact fin
    · rw [if_neg hw, if_neg (by decide)]
      exact fin
end Go.Proofs.Ytjjmnafhaneflaa.X
