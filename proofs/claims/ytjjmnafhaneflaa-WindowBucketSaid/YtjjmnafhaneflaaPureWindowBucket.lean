/- WindowBucket, and what it needs. -/
import Derived.Test.YtjjmnafhaneflaaX0
import Derived.Test.YtjjmnafhaneflaaX4
import Derived.Test.YtjjmnafhaneflaaX5
import Derived.Test.YtjjmnafhaneflaaX6
import Derived.Test.YtjjmnafhaneflaaX9
import Derived.Test.YtjjmnafhaneflaaX10
import Derived.Test.YtjjmnafhaneflaaX13
import Derived.Test.YtjjmnafhaneflaaX14
import Derived.Test.YtjjmnafhaneflaaX18
import Derived.Test.YtjjmnafhaneflaaX21
import Derived.Test.YtjjmnafhaneflaaX23
import Derived.Test.YtjjmnafhaneflaaX25
import Derived.Test.YtjjmnafhaneflaaX28
import Derived.Test.YtjjmnafhaneflaaX29
import Derived.Test.YtjjmnafhaneflaaX30
import Derived.Test.YtjjmnafhaneflaaX31
import Derived.Test.YtjjmnafhaneflaaX32
import Derived.Test.YtjjmnafhaneflaaX33
import Derived.Test.YtjjmnafhaneflaaX34
import Derived.Test.YtjjmnafhaneflaaX35
import Derived.Test.YtjjmnafhaneflaaX36
import Derived.Test.YtjjmnafhaneflaaMath
namespace Go.Proofs.Ytjjmnafhaneflaa.X
open Go.RowKit Go.Proofs.YtjjmnafhaneflaaW.PrintWords Go.Proofs.YtjjmnafhaneflaaW.PrintLast Go.Proofs.YtjjmnafhaneflaaW.PrintMore
set_option linter.unusedVariables false
set_option linter.unusedSimpArgs false

theorem wj {j : Nat} (h : j < 9223372036854775807) : wrap64 ((j : Int) + 1) = ((j + 1 : Nat) : Int) := by unfold wrap64; omega
def sF (p : Int → Bool) : List S58 → Int
  | [] => 0
  | x :: r => (if p x.f0 = true then x.f1 else 0) + sF p r
def okA (cap : Int) (same : Int → Int → Bool) : List S58 → List S58 → Prop
  | [], _ => True
  | x :: c, acc => x.f1 + sB (same x.f0) acc ≤ cap ∧ okA cap same c (x :: acc)
theorem adm_ok (cap : Int) (same : Int → Int → Bool) : ∀ (c acc : List S58), okA cap same (adm cap same c acc) acc
  | [], _ => trivial
  | x :: c, acc => by
    unfold adm
    by_cases h : x.f1 + sB (same x.f0) acc ≤ cap
    · rw [if_pos h]
      exact ⟨h, adm_ok cap same c (x :: acc)⟩
    · rw [if_neg h]
      exact adm_ok cap same c acc
theorem adm_sub (cap : Int) (same : Int → Int → Bool) : ∀ (c acc : List S58), (adm cap same c acc).Sublist c
  | [], _ => List.Sublist.refl _
  | x :: c, acc => by
    unfold adm
    by_cases h : x.f1 + sB (same x.f0) acc ≤ cap
    · rw [if_pos h]
      exact (adm_sub cap same c (x :: acc)).cons_cons x
    · rw [if_neg h]
      exact (adm_sub cap same c acc).cons x
/-! #### ticks in order -/
/-- The newest first: no tick is greater than the one ahead of it. -/
def desc : List S58 → Prop
  | [] => True
  | [_] => True
  | x :: y :: r => y.f0 ≤ x.f0 ∧ desc (y :: r)
theorem desc_tail {x : S58} {r : List S58} (h : desc (x :: r)) : desc r := by
  cases r with
  | nil => trivial
  | cons y r => exact h.2
theorem desc_le : ∀ {r : List S58} {x : S58}, desc (x :: r) → ∀ y ∈ r, y.f0 ≤ x.f0
  | [], _, _ => fun y hy => by cases hy
  | z :: r, x, h => fun y hy => by
    rcases List.mem_cons.1 hy with e | hy
    · rw [e]
      exact h.1
    · exact Int.le_trans (desc_le h.2 y hy) h.1
theorem desc_cons {x : S58} : ∀ {r : List S58}, desc r → (∀ y ∈ r, y.f0 ≤ x.f0) → desc (x :: r)
  | [], _, _ => trivial
  | z :: r, h, g => ⟨g z List.mem_cons_self, h⟩
/-- The costs are not below 0. -/
def posC (l : List S58) : Prop := ∀ x ∈ l, 0 ≤ x.f1
theorem sB_nonneg {p : Int → Bool} : ∀ {r : List S58}, posC r → 0 ≤ sB p r
  | [], _ => Int.le_refl _
  | x :: r, h => by
    unfold sB
    have h1 := h x List.mem_cons_self
    have h2 := sB_nonneg (p := p) (r := r) fun y hy => h y (List.mem_cons_of_mem _ hy)
    split <;> omega
theorem sF_none {p : Int → Bool} : ∀ {r : List S58}, (∀ x ∈ r, p x.f0 = false) → sF p r = 0
  | [], _ => rfl
  | x :: r, h => by
    unfold sF
    rw [h x List.mem_cons_self, sF_none fun y hy => h y (List.mem_cons_of_mem _ hy)]
    rfl
/-- In a window that is an end of what came, both sums are the same. -/
theorem sB_eq_sF {p : Int → Bool} {T : Int} (hp : ∀ t u, t ≤ u → u ≤ T → p t = true → p u = true) : ∀ {r : List S58}, desc r → (∀ x ∈ r, x.f0 ≤ T) → sB p r = sF p r
  | [], _, _ => rfl
  | x :: r, hd, hT => by
    have ih := sB_eq_sF hp (r := r) (desc_tail hd) fun y hy => hT y (List.mem_cons_of_mem _ hy)
    unfold sB sF
    cases e : p x.f0 with
    | true => rw [if_pos rfl, if_pos rfl, ih]
    | false =>
      rw [if_neg (by decide), if_neg (by decide)]
      have : sF p r = 0 := by
        refine sF_none fun y hy => ?_
        cases g : p y.f0 with
        | false => rfl
        | true =>
          have := hp y.f0 x.f0 (desc_le hd y hy) (hT x List.mem_cons_self) g
          rw [e] at this
          cases this
      rw [this]
      rfl
theorem inS_up (span x : Int) : ∀ t u, t ≤ u → u ≤ x → inS span x t = true → inS span x u = true := by
  intro t u h _ g
  unfold inS at g ⊢
  rw [decide_eq_true_iff] at g ⊢
  omega
theorem sB_own {span : Int} (hs : 0 < span) (x : S58) (acc : List S58) : sB (inS span x.f0) (x :: acc) = x.f1 + sB (inS span x.f0) acc := by
  show (if inS span x.f0 x.f0 = true then _ else _) = _
  rw [if_pos (by unfold inS; rw [decide_eq_true_iff]; omega)]
theorem mx_le {a b k : Int} : mx a b ≤ k ↔ a ≤ k ∧ b ≤ k := by unfold mx; split <;> omega
theorem mostL_iff {span k : Int} (hs : 0 < span) : ∀ (c acc : List S58) (m : Int), mostL span c acc m ≤ k ↔ m ≤ k ∧ okA k (inS span) c acc
  | [], _, m => ⟨fun h => ⟨h, trivial⟩, fun h => h.1⟩
  | x :: c, acc, m => by
    unfold mostL okA
    rw [mostL_iff hs c (x :: acc), mx_le, sB_own hs]
    exact ⟨fun ⟨⟨a, b⟩, d⟩ => ⟨a, b, d⟩, fun ⟨a, b, d⟩ => ⟨⟨a, b⟩, d⟩⟩
def cR (x : S58) : Prop := U64 x.f0 ∧ I64 x.f1
theorem rdC_at {l : List S58} {j : Nat} (h : j < l.length) : rd_T58 l (j : Int) = l[j] := by
  unfold rd_T58
  rw [List.getD_eq_getElem?_getD, Int.toNat_natCast, List.getElem?_eq_getElem h]
  rfl
theorem dropC {l : List S58} {j : Nat} (h : j < l.length) : l.drop j = l[j] :: l.drop (j + 1) := List.drop_eq_getElem_cons h
abbrev okWin (a b : Int) : Prop := (1 ≤ a ∧ a ≤ 1000000000) ∧ 1 ≤ b ∧ b ≤ 1000000000
theorem wCheck (a b : Int) : window_Check.f a b = some (if okWin a b then 0 else 8) ∧ spigotref38_Check.f a b = some (if okWin a b then 0 else 8) := by
  have h : window_Check.f a b = some (if okWin a b then 0 else 8) := by
    unfold window_Check.f
    by_cases h1 : a < 1
    · rw [if_pos h1, if_neg (by unfold okWin; omega)]
    · rw [if_neg h1]
      by_cases h2 : a > 1000000000
      · rw [if_pos h2, if_neg (by unfold okWin; omega)]
      · rw [if_neg h2]
        by_cases h3 : b < 1
        · rw [if_pos h3, if_neg (by unfold okWin; omega)]
        · rw [if_neg h3]
          by_cases h4 : b > 1000000000
          · rw [if_pos h4, if_neg (by unfold okWin; omega)]
          · rw [if_neg h4, if_pos (by unfold okWin; omega)]
  exact ⟨h, h⟩
/-! #### charges -/
def badC (x : S58) : Bool := decide (x.f1 < 0) || decide (x.f1 > 1000000000)
def okU : Int → List S58 → Bool
  | _, [] => true
  | t, x :: l => decide (t ≤ x.f0) && okU x.f0 l
def chOf (l : List S58) : Int := if 60 < l.length then 4 else if l.any badC = true then 8 else if okU 0 l = true then 0 else 32
theorem okB_eq : ∀ (l : List S58) (t : Int), (∀ x ∈ l, cR x) → okB l t = (okU t l && !(l.any badC))
  | [], _, _ => rfl
  | x :: l, t, h => by
    have h1 := h x List.mem_cons_self
    have ih := okB_eq l x.f0 fun y hy => h y (List.mem_cons_of_mem _ hy)
    obtain ⟨⟨u0, u1⟩, _⟩ := h1
    unfold okB okU
    rw [ih, List.any_cons, decide_eq_true u1, Bool.true_and]
    unfold badC
    by_cases a : t ≤ x.f0
    · by_cases b : 0 ≤ x.f1
      · by_cases c : x.f1 ≤ 1000000000
        · rw [decide_eq_true a, decide_eq_true b, decide_eq_true c, decide_eq_false (show ¬ x.f1 < 0 by omega), decide_eq_false (show ¬ x.f1 > 1000000000 by omega)]
          simp
        · rw [decide_eq_false c, decide_eq_true (show x.f1 > 1000000000 by omega)]
          simp
      · rw [decide_eq_false b, decide_eq_true (show x.f1 < 0 by omega)]
        simp
    · rw [decide_eq_false a]
      simp
theorem chOf_zero {l : List S58} (h : ∀ x ∈ l, cR x) : chOf l = 0 ↔ l.length ≤ 60 ∧ okB l 0 = true := by
  rw [okB_eq l 0 h, Bool.and_eq_true, Bool.not_eq_true']
  unfold chOf
  by_cases a : 60 < l.length
  · rw [if_pos a]
    exact ⟨fun h => (by cases h), fun h => by omega⟩
  · rw [if_neg a]
    by_cases b : l.any badC = true
    · rw [if_pos b, b]
      exact ⟨fun h => (by cases h), fun h => by cases h.2.2⟩
    · rw [if_neg b]
      by_cases c : okU 0 l = true
      · rw [if_pos c]
        exact ⟨fun _ => ⟨by omega, c, Bool.eq_false_iff.2 b⟩, fun _ => rfl⟩
      · rw [if_neg c]
        exact ⟨fun h => (by cases h), fun h => absurd h.2.1 c⟩
theorem okU_of {x : S58} {l : List S58} (h : cR x) : okU 0 (x :: l) = okU x.f0 l := by
  show (decide (0 ≤ x.f0) && _) = _
  rw [decide_eq_true h.1.1, Bool.true_and]
theorem find_ok (l : List S58) (hl : l.length ≤ 1000) : ∀ (d j k : Nat), j + d = l.length → d + 1 ≤ k → ∃ i, slices_IndexFunc_api_Charge_c40.l0 k l (l.length : Int) (j : Int) = some i ∧ decide (i ≥ 0) = (l.drop j).any badC := by
  intro d
  induction d with
  | zero =>
    intro j k hj hk
    obtain ⟨k, rfl⟩ : ∃ m, k = m + 1 := ⟨k - 1, by omega⟩
    simp only [slices_IndexFunc_api_Charge_c40.l0]
    rw [if_neg (by omega), List.drop_eq_nil_of_le (by omega)]
    exact ⟨_, rfl, rfl⟩
  | succ d ih =>
    intro j k hj hk
    obtain ⟨k, rfl⟩ : ∃ m, k = m + 1 := ⟨k - 1, by omega⟩
    have hjl : j < l.length := by omega
    simp only [slices_IndexFunc_api_Charge_c40.l0]
    rw [if_pos (by omega), if_pos (by omega), if_pos (by omega), rdC_at hjl, dropC hjl, List.any_cons, wj (by omega)]
    have e : window_Charges_1.f l[j].f0 l[j].f1 = some (badC l[j]) := by
      unfold window_Charges_1.f badC
      by_cases a : l[j].f1 < 0
      · rw [if_pos a, decide_eq_true a, Bool.true_or]
      · rw [if_neg a, decide_eq_false a, Bool.false_or]
    rw [e]
    simp only [Option.bind_some]
    by_cases c : badC l[j] = true
    · rw [if_pos c, c, Bool.true_or]
      exact ⟨_, rfl, decide_eq_true (by omega)⟩
    · rw [if_neg c, Bool.eq_false_iff.2 c, Bool.false_or]
      exact ih (j + 1) k (by omega) (by omega)
theorem has_bad (l : List S58) (hl : l.length ≤ 1000) (a : Int) (k : Nat) (hk : l.length + 1 ≤ k) : slices_ContainsFunc_api_Charge_c40.f k l a = some (l.any badC) := by
  obtain ⟨i, e1, e2⟩ := find_ok l hl l.length 0 k (by omega) hk
  unfold slices_ContainsFunc_api_Charge_c40.f slices_IndexFunc_api_Charge_c40.f
  have e1' : slices_IndexFunc_api_Charge_c40.l0 k l (l.length : Int) 0 = some i := e1
  rw [e1']
  simp only [Option.bind_some]
  rw [e2]
  rfl
theorem sorted_w (l : List S58) (hl : l.length ≤ 1000) : ∀ (d j k : Nat), j + 1 + d = l.length → d + 1 ≤ k → ∀ (h : j < l.length), window_Charges.l0 k l (l.length : Int) ((j + 1 : Nat) : Int) = some (if okU l[j].f0 (l.drop (j + 1)) = true then 0 else 32) := by
  intro d
  induction d with
  | zero =>
    intro j k hj hk h
    obtain ⟨k, rfl⟩ : ∃ m, k = m + 1 := ⟨k - 1, by omega⟩
    simp only [window_Charges.l0]
    rw [if_neg (by omega), List.drop_eq_nil_of_le (by omega)]
    rfl
  | succ d ih =>
    intro j k hj hk h
    obtain ⟨k, rfl⟩ : ∃ m, k = m + 1 := ⟨k - 1, by omega⟩
    have hjl : j + 1 < l.length := by omega
    have e1 : wrap64 (((j + 1 : Nat) : Int) - 1) = (j : Int) := by unfold wrap64; omega
    simp only [window_Charges.l0]
    rw [if_pos (by omega), if_pos (by omega), if_pos (by omega), if_pos (by omega), e1, if_pos (by omega), if_pos (by omega), rdC_at hjl, rdC_at h, wj (by omega), dropC hjl]
    unfold okU
    by_cases c : l[j + 1].f0 < l[j].f0
    · rw [if_pos c, decide_eq_false (by omega), Bool.false_and, if_neg (by decide)]
    · rw [if_neg c, decide_eq_true (by omega), Bool.true_and]
      exact ih (j + 1) k (by omega) (by omega) hjl
theorem sorted_r (l : List S58) (hl : l.length ≤ 1000) : ∀ (d j k : Nat), j + 1 + d = l.length → d + 1 ≤ k → ∀ (h : j < l.length), spigotref38_Charges.l1 k l ((j + 1 : Nat) : Int) = some (if okU l[j].f0 (l.drop (j + 1)) = true then 0 else 32) := by
  intro d
  induction d with
  | zero =>
    intro j k hj hk h
    obtain ⟨k, rfl⟩ : ∃ m, k = m + 1 := ⟨k - 1, by omega⟩
    simp only [spigotref38_Charges.l1]
    rw [if_neg (by omega), List.drop_eq_nil_of_le (by omega)]
    rfl
  | succ d ih =>
    intro j k hj hk h
    obtain ⟨k, rfl⟩ : ∃ m, k = m + 1 := ⟨k - 1, by omega⟩
    have hjl : j + 1 < l.length := by omega
    have e1 : wrap64 (((j + 1 : Nat) : Int) - 1) = (j : Int) := by unfold wrap64; omega
    simp only [spigotref38_Charges.l1]
    rw [if_pos (by omega), if_pos (by omega), e1, if_pos (by omega), if_pos (by omega), rdC_at hjl, rdC_at h, wj (by omega), dropC hjl]
    unfold okU
    by_cases c : l[j + 1].f0 < l[j].f0
    · rw [if_pos c, decide_eq_false (by omega), Bool.false_and, if_neg (by decide)]
    · rw [if_neg c, decide_eq_true (by omega), Bool.true_and]
      exact ih (j + 1) k (by omega) (by omega) hjl
theorem wCharges (l : List S58) (hr : ∀ x ∈ l, cR x) (k : Nat) (hk : 70 ≤ k) : window_Charges.f k l = some (chOf l) := by
  unfold window_Charges.f chOf
  by_cases a : 60 < l.length
  · rw [if_pos (by omega), if_pos a]
  · rw [if_neg (by omega), if_neg a, has_bad l (by omega) 0 k (by omega)]
    simp only [Option.bind_some]
    by_cases b : l.any badC = true
    · rw [if_pos b, if_pos b]
    · rw [if_neg b, if_neg b]
      cases l with
      | nil =>
        obtain ⟨k, rfl⟩ : ∃ m, k = m + 1 := ⟨k - 1, by omega⟩
        simp only [window_Charges.l0]
        rw [if_neg (by simp)]
        rfl
      | cons x l =>
        obtain ⟨k, rfl⟩ : ∃ m, k = m + 1 := ⟨k - 1, by omega⟩
        rw [okU_of (hr x List.mem_cons_self)]
        have h := sorted_w (x :: l) (by omega) l.length 0 k (by simp; omega) (by simp at a; omega) (by simp)
        simp only [window_Charges.l0]
        rw [if_pos (by simp), if_neg (by omega), show wrap64 (0 + 1) = ((0 + 1 : Nat) : Int) by unfold wrap64; omega]
        exact h
theorem rcost_ok (l : List S58) (hl : l.length ≤ 1000) : ∀ (d j k : Nat), j + d = l.length → d + 1 ≤ k → ((l.drop j).any badC = true → spigotref38_Charges.l0 k l (j : Int) = some 8) ∧ ((l.drop j).any badC = false → spigotref38_Charges.l0 k l (j : Int) = spigotref38_Charges.l1 (k - d - 1) l 1) := by
  intro d
  induction d with
  | zero =>
    intro j k hj hk
    obtain ⟨k, rfl⟩ : ∃ m, k = m + 1 := ⟨k - 1, by omega⟩
    simp only [spigotref38_Charges.l0]
    rw [if_neg (by omega), List.drop_eq_nil_of_le (by omega)]
    exact ⟨fun h => (by cases h), fun _ => rfl⟩
  | succ d ih =>
    intro j k hj hk
    obtain ⟨k, rfl⟩ : ∃ m, k = m + 1 := ⟨k - 1, by omega⟩
    have hjl : j < l.length := by omega
    have i1 := ih (j + 1) k (by omega) (by omega)
    have ek : k + 1 - (d + 1) - 1 = k - d - 1 := by omega
    simp only [spigotref38_Charges.l0]
    rw [if_pos (by omega), if_pos (by omega), rdC_at hjl, dropC hjl, List.any_cons, wj (by omega), ek]
    unfold badC
    by_cases a : l[j].f1 < 0
    · rw [if_pos a, decide_eq_true a, Bool.true_or, Bool.true_or]
      exact ⟨fun _ => rfl, fun h => by cases h⟩
    · rw [if_neg a, decide_eq_false a, Bool.false_or]
      by_cases b : l[j].f1 > 1000000000
      · rw [if_pos b, decide_eq_true b, Bool.true_or]
        exact ⟨fun _ => rfl, fun h => by cases h⟩
      · rw [if_neg b, decide_eq_false b, Bool.false_or]
        exact i1
theorem rCharges (l : List S58) (hr : ∀ x ∈ l, cR x) (k : Nat) (hk : 130 ≤ k) : spigotref38_Charges.f k l = some (chOf l) := by
  unfold spigotref38_Charges.f chOf
  by_cases a : 60 < l.length
  · rw [if_pos (by omega), if_pos a]
  · rw [if_neg (by omega), if_neg a]
    obtain ⟨r1, r2⟩ := rcost_ok l (by omega) l.length 0 k (by omega) (by omega)
    rw [List.drop_zero] at r1 r2
    by_cases b : l.any badC = true
    · rw [if_pos b]
      exact r1 b
    · rw [if_neg b]
      have h := r2 (Bool.eq_false_iff.2 b)
      refine h.trans ?_
      obtain ⟨m, hm⟩ : ∃ m, k - l.length - 1 = m + 1 := ⟨k - l.length - 2, by omega⟩
      cases l with
      | nil =>
        rw [hm]
        simp only [spigotref38_Charges.l1]
        rw [if_neg (by simp)]
        rfl
      | cons x l =>
        rw [okU_of (hr x List.mem_cons_self)]
        exact sorted_r (x :: l) (by omega) l.length 0 _ (by simp; omega) (by simp at a ⊢; omega) (by simp)
theorem wBoth (a b : Int) (l : List S58) (hr : ∀ x ∈ l, cR x) (k : Nat) (hk : 70 ≤ k) : window_both.f k a b l = some (if okWin a b then chOf l else 8) := by
  unfold window_both.f
  rw [(wCheck a b).1]
  simp only [Option.bind_some]
  by_cases h : okWin a b
  · rw [if_pos h, if_pos rfl, wCharges l hr k hk, if_pos h]
    rfl
  · rw [if_neg h, if_neg (by decide), if_neg h]
/-! #### same lists -/
theorem same_ok (x y : List S58) (hl : x.length ≤ 1000) (k : Nat) (hk : x.length + 1 ≤ k) : ∃ b, spigotref38_Same.f k x y = some b ∧ (b = true ↔ x = y) := by
  unfold spigotref38_Same.f
  by_cases e : (x.length : Int) = (y.length : Int)
  · rw [if_pos e]
    have el : x.length = y.length := by omega
    have key : ∀ (d j k : Nat), j + d = x.length → d + 1 ≤ k → ∃ b, spigotref38_Same.l0 k x y (j : Int) = some b ∧ (b = true ↔ x.drop j = y.drop j) := by
      intro d
      induction d with
      | zero =>
        intro j k hj hk
        obtain ⟨k, rfl⟩ : ∃ m, k = m + 1 := ⟨k - 1, by omega⟩
        simp only [spigotref38_Same.l0]
        rw [if_neg (by omega), List.drop_eq_nil_of_le (by omega), List.drop_eq_nil_of_le (by omega)]
        exact ⟨true, rfl, fun _ => rfl, fun _ => rfl⟩
      | succ d ih =>
        intro j k hj hk
        obtain ⟨k, rfl⟩ : ∃ m, k = m + 1 := ⟨k - 1, by omega⟩
        have h1 : j < x.length := by omega
        have h2 : j < y.length := by omega
        simp only [spigotref38_Same.l0]
        rw [if_pos (by omega), if_pos (by omega), if_pos (by omega), rdC_at h1, rdC_at h2, dropC h1, dropC h2, wj (by omega)]
        by_cases c : x[j] = y[j]
        · rw [if_neg (by rw [c]; simp)]
          obtain ⟨b, e1, e2⟩ := ih (j + 1) k (by omega) (by omega)
          refine ⟨b, e1, ?_⟩
          rw [e2, c]
          exact ⟨fun h => by rw [h], fun h => (List.cons.inj h).2⟩
        · have hc : (!(x[j].f0 == y[j].f0) || !(x[j].f1 == y[j].f1)) = true := by
            rw [Bool.or_eq_true, Bool.not_eq_true', Bool.not_eq_true', beq_eq_false_iff_ne, beq_eq_false_iff_ne]
            by_cases c0 : x[j].f0 = y[j].f0
            · refine Or.inr fun c1 => c ?_
              cases hx : x[j]
              cases hy : y[j]
              rw [hx, hy] at c0 c1
              simp only at c0 c1
              rw [c0, c1]
            · exact Or.inl c0
          rw [if_pos hc]
          exact ⟨false, rfl, fun h => (by cases h), fun h => absurd (List.cons.inj h).1 c⟩
    obtain ⟨b, e1, e2⟩ := key x.length 0 k (by omega) hk
    rw [List.drop_zero, List.drop_zero] at e2
    exact ⟨b, e1, e2⟩
  · rw [if_neg e]
    exact ⟨false, rfl, fun h => (by cases h), fun h => absurd (by rw [h]) e⟩
theorem same_self (x : List S58) (hl : x.length ≤ 1000) (k : Nat) (hk : x.length + 1 ≤ k) : spigotref38_Same.f k x x = some true := by
  obtain ⟨b, e1, e2⟩ := same_ok x x hl k hk
  rw [e1, e2.2 rfl]
/-! #### parts of what is sorted -/
theorem okB_le : ∀ {l : List S58} {t u : Int}, t ≤ u → okB l u = true → okB l t = true
  | [], _, _, _, _ => rfl
  | x :: l, t, u, h, g => by
    simp only [okB, Bool.and_eq_true, decide_eq_true_eq] at g ⊢
    exact ⟨by omega, g.2⟩
theorem okB_sub {o l : List S58} (h : o.Sublist l) : ∀ {t : Int}, okB l t = true → okB o t = true := by
  induction h with
  | slnil => exact fun h => h
  | cons x _ ih =>
    intro t g
    simp only [okB, Bool.and_eq_true, decide_eq_true_eq] at g
    exact ih (okB_le g.1 g.2.2.2.2)
  | cons_cons x _ ih =>
    intro t g
    simp only [okB, Bool.and_eq_true, decide_eq_true_eq] at g ⊢
    exact ⟨g.1, g.2.1, g.2.2.1, g.2.2.2.1, ih g.2.2.2.2⟩
theorem okB_pos {l : List S58} {t : Int} (h : okB l t = true) : posC l := fun x hx => ((okB_spec h).1 x hx).2.2.1
theorem okW_of {a b : Int} {l : List S58} (hw : okWin a b) (hl : l.length ≤ 60) (h : okB l 0 = true) : okW a b l = true := by
  unfold okW
  obtain ⟨⟨h1, h2⟩, h3, h4⟩ := hw
  rw [decide_eq_true h1, decide_eq_true h2, decide_eq_true h3, decide_eq_true h4, decide_eq_true (show l.length ≤ 1000 by omega), h]
  rfl
/-- What the package's functions answer, where the window and the charges are good. -/
theorem slide_ok {a b : Int} {l : List S58} (hr : ∀ x ∈ l, cR x) (hw : okWin a b) (hl : l.length ≤ 60) (h : okB l 0 = true) (k : Nat) (hk : 70 ≤ k) : window_Slide.f k a b l = some (adm a (inS b) l [], 0) := by
  unfold window_Slide.f
  rw [wBoth a b l hr k hk, if_pos hw, (chOf_zero hr).2 ⟨hl, h⟩]
  simp only [Option.bind_some]
  rw [if_pos (by simp), if_pos (okW_of hw hl h)]
theorem most_ok {a b : Int} {l : List S58} (hr : ∀ x ∈ l, cR x) (hw : okWin a b) (hl : l.length ≤ 60) (h : okB l 0 = true) (k : Nat) (hk : 70 ≤ k) : window_Most.f k a b l = some (mostL b l [] 0, 0) := by
  unfold window_Most.f
  rw [wBoth a b l hr k hk, if_pos hw, (chOf_zero hr).2 ⟨hl, h⟩]
  simp only [Option.bind_some]
  rw [if_pos (by simp), if_pos (okW_of hw hl h)]
set_option maxRecDepth 100000 in
theorem alive38_ : spigotlaw38_alive.f 100 = some true := by kernel_rfl
theorem alive38 (k : Nat) (hk : 100 ≤ k) : spigotlaw38_alive.f k = some true := up_ (fun k => spigotlaw38_alive.mono k) alive38_ k hk
theorem great38 (l : List S58) : ∃ b, spigotref38_Great.f l = some b ∧ (b = false → l.length ≤ 100) := by
  unfold spigotref38_Great.f
  by_cases a : (l.length : Int) > 25
  · rw [if_pos a]
    by_cases b : (l.length : Int) ≤ 60
    · rw [if_pos b]
      exact ⟨true, rfl, fun h => by cases h⟩
    · rw [if_neg b]
      exact ⟨_, rfl, fun h => by have := of_decide_eq_false h; omega⟩
  · rw [if_neg a]
    exact ⟨_, rfl, fun h => by have := of_decide_eq_false h; omega⟩
/-- From the table: how many bits a byte needs. -/
theorem tab_byte (b : Nat) (hb : b < 256) (h0 : 0 < b) : ∃ t : Nat, 1 ≤ t ∧ t ≤ 8 ∧ 2 ^ (t - 1) ≤ b ∧ b < 2 ^ t ∧ bt (⟨#[0, 1, 2, 2, 3, 3, 3, 3, 4, 4, 4, 4, 4, 4, 4, 4, 5, 5, 5, 5, 5, 5, 5, 5, 5, 5, 5, 5, 5, 5, 5, 5, 6, 6, 6, 6, 6, 6, 6, 6, 6, 6, 6, 6, 6, 6, 6, 6, 6, 6, 6, 6, 6, 6, 6, 6, 6, 6, 6, 6, 6, 6, 6, 6, 7, 7, 7, 7, 7, 7, 7, 7, 7, 7, 7, 7, 7, 7, 7, 7, 7, 7, 7, 7, 7, 7, 7, 7, 7, 7, 7, 7, 7, 7, 7, 7, 7, 7, 7, 7, 7, 7, 7, 7, 7, 7, 7, 7, 7, 7, 7, 7, 7, 7, 7, 7, 7, 7, 7, 7, 7, 7, 7, 7, 7, 7, 7, 7, 8, 8, 8, 8, 8, 8, 8, 8, 8, 8, 8, 8, 8, 8, 8, 8, 8, 8, 8, 8, 8, 8, 8, 8, 8, 8, 8, 8, 8, 8, 8, 8, 8, 8, 8, 8, 8, 8, 8, 8, 8, 8, 8, 8, 8, 8, 8, 8, 8, 8, 8, 8, 8, 8, 8, 8, 8, 8, 8, 8, 8, 8, 8, 8, 8, 8, 8, 8, 8, 8, 8, 8, 8, 8, 8, 8, 8, 8, 8, 8, 8, 8, 8, 8, 8, 8, 8, 8, 8, 8, 8, 8, 8, 8, 8, 8, 8, 8, 8, 8, 8, 8, 8, 8, 8, 8, 8, 8, 8, 8, 8, 8, 8, 8, 8, 8, 8, 8, 8, 8, 8, 8, 8, 8, 8, 8, 8, 8]⟩ : ByteArray) (b : Int) = (t : Int) := by
  have h : ∀ b : Fin 256, 0 < b.val → ∃ t : Fin 9, 1 ≤ t.val ∧ 2 ^ (t.val - 1) ≤ b.val ∧ b.val < 2 ^ t.val ∧ bt (⟨#[0, 1, 2, 2, 3, 3, 3, 3, 4, 4, 4, 4, 4, 4, 4, 4, 5, 5, 5, 5, 5, 5, 5, 5, 5, 5, 5, 5, 5, 5, 5, 5, 6, 6, 6, 6, 6, 6, 6, 6, 6, 6, 6, 6, 6, 6, 6, 6, 6, 6, 6, 6, 6, 6, 6, 6, 6, 6, 6, 6, 6, 6, 6, 6, 7, 7, 7, 7, 7, 7, 7, 7, 7, 7, 7, 7, 7, 7, 7, 7, 7, 7, 7, 7, 7, 7, 7, 7, 7, 7, 7, 7, 7, 7, 7, 7, 7, 7, 7, 7, 7, 7, 7, 7, 7, 7, 7, 7, 7, 7, 7, 7, 7, 7, 7, 7, 7, 7, 7, 7, 7, 7, 7, 7, 7, 7, 7, 7, 8, 8, 8, 8, 8, 8, 8, 8, 8, 8, 8, 8, 8, 8, 8, 8, 8, 8, 8, 8, 8, 8, 8, 8, 8, 8, 8, 8, 8, 8, 8, 8, 8, 8, 8, 8, 8, 8, 8, 8, 8, 8, 8, 8, 8, 8, 8, 8, 8, 8, 8, 8, 8, 8, 8, 8, 8, 8, 8, 8, 8, 8, 8, 8, 8, 8, 8, 8, 8, 8, 8, 8, 8, 8, 8, 8, 8, 8, 8, 8, 8, 8, 8, 8, 8, 8, 8, 8, 8, 8, 8, 8, 8, 8, 8, 8, 8, 8, 8, 8, 8, 8, 8, 8, 8, 8, 8, 8, 8, 8, 8, 8, 8, 8, 8, 8, 8, 8, 8, 8, 8, 8, 8, 8, 8, 8, 8, 8]⟩ : ByteArray) (b.val : Int) = (t.val : Int) := by decide +kernel
  obtain ⟨t, h1, h2, h3, h4⟩ := h ⟨b, hb⟩ h0
  exact ⟨t.val, h1, by omega, h2, h3, h4⟩
/-- How many bits a number needs, behind a shift by m. -/
theorem bits_shift {x b : Int} {t m : Nat} (hb : b = x / 2 ^ m) (h1 : 1 ≤ t) (h2 : (2 : Int) ^ (t - 1) ≤ b) (h3 : b < 2 ^ t) : (2 : Int) ^ (t + m - 1) ≤ x ∧ x < 2 ^ (t + m) := by
  subst hb
  obtain ⟨d1, d2⟩ := div_bd (n := x) (two_pow_pos m)
  have e1 := two_pow_split (t - 1) m (t + m - 1) (by omega)
  have e2 := two_pow_split t m (t + m) rfl
  have k1 := Int.mul_le_mul_of_nonneg_right h2 (Int.le_of_lt (two_pow_pos m))
  have k2 : x / 2 ^ m * 2 ^ m + 2 ^ m ≤ 2 ^ t * 2 ^ m := by
    have : (x / 2 ^ m + 1) * 2 ^ m ≤ 2 ^ t * 2 ^ m := Int.mul_le_mul_of_nonneg_right (by omega) (Int.le_of_lt (two_pow_pos m))
    rw [Int.add_mul, Int.one_mul] at this
    exact this
  omega
set_option maxRecDepth 100000 in
theorem Len64_j0 (k : Nat) (x o : Int) (m : Nat) (ho : o = m) (hm : m ≤ 32) (h0 : 0 < x) (h1 : x < 4294967296) :
    ∃ t : Nat, 1 ≤ t ∧ t ≤ 32 ∧ bits_Len64.j0 (k + 1) x o = some ((t + m : Nat) : Int) ∧ (2 : Int) ^ (t - 1) ≤ x ∧ x < 2 ^ t := by
  rw [bits_Len64.j0]
  have key : ∀ (b : Int) (s : Nat), b = x / 2 ^ s → 0 < b → b < 256 → s ≤ 24 → ∃ t : Nat, 1 ≤ t ∧ t ≤ 8 ∧ bt (⟨#[0, 1, 2, 2, 3, 3, 3, 3, 4, 4, 4, 4, 4, 4, 4, 4, 5, 5, 5, 5, 5, 5, 5, 5, 5, 5, 5, 5, 5, 5, 5, 5, 6, 6, 6, 6, 6, 6, 6, 6, 6, 6, 6, 6, 6, 6, 6, 6, 6, 6, 6, 6, 6, 6, 6, 6, 6, 6, 6, 6, 6, 6, 6, 6, 7, 7, 7, 7, 7, 7, 7, 7, 7, 7, 7, 7, 7, 7, 7, 7, 7, 7, 7, 7, 7, 7, 7, 7, 7, 7, 7, 7, 7, 7, 7, 7, 7, 7, 7, 7, 7, 7, 7, 7, 7, 7, 7, 7, 7, 7, 7, 7, 7, 7, 7, 7, 7, 7, 7, 7, 7, 7, 7, 7, 7, 7, 7, 7, 8, 8, 8, 8, 8, 8, 8, 8, 8, 8, 8, 8, 8, 8, 8, 8, 8, 8, 8, 8, 8, 8, 8, 8, 8, 8, 8, 8, 8, 8, 8, 8, 8, 8, 8, 8, 8, 8, 8, 8, 8, 8, 8, 8, 8, 8, 8, 8, 8, 8, 8, 8, 8, 8, 8, 8, 8, 8, 8, 8, 8, 8, 8, 8, 8, 8, 8, 8, 8, 8, 8, 8, 8, 8, 8, 8, 8, 8, 8, 8, 8, 8, 8, 8, 8, 8, 8, 8, 8, 8, 8, 8, 8, 8, 8, 8, 8, 8, 8, 8, 8, 8, 8, 8, 8, 8, 8, 8, 8, 8, 8, 8, 8, 8, 8, 8, 8, 8, 8, 8, 8, 8, 8, 8, 8, 8, 8, 8]⟩ : ByteArray) b = (t : Int) ∧ (2 : Int) ^ (t + s - 1) ≤ x ∧ x < 2 ^ (t + s) := by
    intro b s hb b0 b1 hs
    obtain ⟨c, rfl⟩ := Int.eq_ofNat_of_zero_le (Int.le_of_lt b0)
    obtain ⟨t, t1, t2, t3, t4, t5⟩ := tab_byte c (by omega) (by omega)
    obtain ⟨e1, e2⟩ := bits_shift (x := x) (b := c) (t := t) (m := s) hb t1 (by exact_mod_cast t3) (by exact_mod_cast t4)
    exact ⟨t, t1, t2, t5, e1, e2⟩
  by_cases c1 : x ≥ 65536
  · rw [if_pos c1]
    by_cases c2 : x / 65536 ≥ 256
    · rw [if_pos c2, if_pos (by omega), if_pos (by omega)]
      obtain ⟨t, t1, t2, t3, t4, t5⟩ := key (x / 65536 / 256 % 256) 24 (by rw [Int.emod_eq_of_lt (by omega) (by omega), show ((2 : Int) ^ 24) = 16777216 from rfl]; omega) (by omega) (by omega) (by omega)
      refine ⟨t + 24, by omega, by omega, ?_, t4, t5⟩
      rw [t3, ho, wrap64_id (x := (m : Int) + 16) (by omega) (by omega), wrap64_id (x := (m : Int) + 16 + 8) (by omega) (by omega), wrap64_id (x := (t : Int)) (by omega) (by omega), wrap64_id (by omega) (by omega)]
      congr 1
      omega
    · rw [if_neg c2, if_pos (by omega), if_pos (by omega)]
      obtain ⟨t, t1, t2, t3, t4, t5⟩ := key (x / 65536 % 256) 16 (by rw [Int.emod_eq_of_lt (by omega) (by omega), show ((2 : Int) ^ 16) = 65536 from rfl]) (by omega) (by omega) (by omega)
      refine ⟨t + 16, by omega, by omega, ?_, t4, t5⟩
      rw [t3, ho, wrap64_id (x := (m : Int) + 16) (by omega) (by omega), wrap64_id (x := (t : Int)) (by omega) (by omega), wrap64_id (by omega) (by omega)]
      congr 1
      omega
  · rw [if_neg c1]
    by_cases c2 : x ≥ 256
    · rw [if_pos c2, if_pos (by omega), if_pos (by omega)]
      obtain ⟨t, t1, t2, t3, t4, t5⟩ := key (x / 256 % 256) 8 (by rw [Int.emod_eq_of_lt (by omega) (by omega), show ((2 : Int) ^ 8) = 256 from rfl]) (by omega) (by omega) (by omega)
      refine ⟨t + 8, by omega, by omega, ?_, t4, t5⟩
      rw [t3, ho, wrap64_id (x := (m : Int) + 8) (by omega) (by omega), wrap64_id (x := (t : Int)) (by omega) (by omega), wrap64_id (by omega) (by omega)]
      congr 1
      omega
    · rw [if_neg c2, if_pos (by omega), if_pos (by omega)]
      obtain ⟨t, t1, t2, t3, t4, t5⟩ := key (x % 256) 0 (by rw [Int.emod_eq_of_lt (by omega) (by omega)]; simp) (by omega) (by omega) (by omega)
      refine ⟨t, by omega, by omega, ?_, t4, t5⟩
      rw [t3, ho, wrap64_id (x := (t : Int)) (by omega) (by omega), wrap64_id (by omega) (by omega)]
      congr 1
      omega
theorem Len64_ok (k : Nat) (x : Int) (h0 : 0 < x) (h1 : x < 18446744073709551616) :
    ∃ t : Nat, 1 ≤ t ∧ t ≤ 64 ∧ bits_Len64.f (k + 1) x = some (t : Int) ∧ (2 : Int) ^ (t - 1) ≤ x ∧ x < 2 ^ t := by
  unfold bits_Len64.f
  by_cases c : x ≥ 4294967296
  · rw [if_pos c]
    obtain ⟨t, t1, t2, t3, t4, t5⟩ := Len64_j0 k (x / 4294967296) 32 32 rfl (by omega) (by omega) (by omega)
    obtain ⟨e1, e2⟩ := bits_shift (x := x) (b := x / 4294967296) (t := t) (m := 32) (by rw [show ((2 : Int) ^ 32) = 4294967296 from rfl]) t1 t4 t5
    exact ⟨t + 32, by omega, by omega, t3, e1, e2⟩
  · rw [if_neg c]
    obtain ⟨t, t1, t2, t3, t4, t5⟩ := Len64_j0 k x 0 0 rfl (by omega) h0 (by omega)
    exact ⟨t, by omega, by omega, t3, t4, t5⟩
theorem LeadingZeros64_ok (k : Nat) (x : Int) (h0 : 0 < x) (h1 : x < 18446744073709551616) :
    ∃ s : Nat, s ≤ 63 ∧ bits_LeadingZeros64.f (k + 1) x = some (s : Int) ∧ (9223372036854775808 : Int) ≤ x * 2 ^ s ∧ x * 2 ^ s < 18446744073709551616 := by
  obtain ⟨t, t1, t2, t3, t4, t5⟩ := Len64_ok k x h0 h1
  refine ⟨64 - t, by omega, ?_, ?_, ?_⟩
  · unfold bits_LeadingZeros64.f
    rw [t3]
    simp only [Option.bind_some]
    rw [wrap64_id (by omega) (by omega)]
    congr 1
    omega
  · have e := two_pow_split (t - 1) (64 - t) 63 (by omega)
    have k1 := Int.mul_le_mul_of_nonneg_right t4 (Int.le_of_lt (two_pow_pos (64 - t)))
    rw [e] at k1
    exact k1
  · have e := two_pow_split t (64 - t) 64 (by omega)
    have k1 := Int.mul_lt_mul_of_pos_right t5 (two_pow_pos (64 - t))
    rw [e] at k1
    exact k1

/-! #### the loops of Div64: a guessed digit is lowered until it is the digit -/
section
variable {y yn1 yn0 u v q r : Int}
theorem kn_eq (hy : y = yn1 * 4294967296 + yn0) : q * y = q * yn1 * 4294967296 + q * yn0 := by rw [hy, Int.mul_add, Int.mul_assoc]
theorem kn_dec (hy : y = yn1 * 4294967296 + yn0) (hu0 : 0 ≤ u) (hu : u < y) (hv0 : 0 ≤ v) (hv : v < 4294967296) (hq : u = q * yn1 + r) (hq0 : 0 ≤ q) (hc : q ≥ 4294967296 ∨ q * yn0 > 4294967296 * r + v) : u * 4294967296 + v < q * y ∧ 1 ≤ q := by
  have e := kn_eq (q := q) hy
  have h : u * 4294967296 + v < q * y := by
    rcases hc with h | h
    · have := Int.mul_le_mul_of_nonneg_right h (by omega : 0 ≤ y)
      omega
    · omega
  refine ⟨h, ?_⟩
  rcases Int.lt_or_le 0 q with h' | h'
  · omega
  · have : q = 0 := by omega
    subst this
    rw [Int.zero_mul] at h
    omega
theorem kn_low (hy : y = yn1 * 4294967296 + yn0) (hu : u < y) (hu0 : 0 ≤ u) (hv : v < 4294967296) (hq : q * y ≤ u * 4294967296 + v) : q < 4294967296 := by
  rcases Int.lt_or_le q 4294967296 with h | h
  · exact h
  · have := Int.mul_le_mul_of_nonneg_right h (by omega : 0 ≤ y)
    omega
theorem kn_brk (hy : y = yn1 * 4294967296 + yn0) (h2 : 0 ≤ yn0) (h2' : yn0 < 4294967296) (hv0 : 0 ≤ v) (hq : u = q * yn1 + r) (hq0 : 0 ≤ q) (hq1 : q ≤ 4294967296) (hr : 4294967296 ≤ r) : q * y ≤ u * 4294967296 + v := by
  have e := kn_eq (q := q) hy
  have h := (mul_bd hq0 hq1 h2 (by omega : yn0 ≤ 4294967295)).2
  omega
end

theorem Div64_l0 (y s yn1 yn0 u v un0 : Int) (hy : y = yn1 * 4294967296 + yn0) (h1 : 2147483648 ≤ yn1) (h1' : yn1 < 4294967296) (h2 : 0 ≤ yn0) (h2' : yn0 < 4294967296) (hu0 : 0 ≤ u) (hu : u < y) (hv0 : 0 ≤ v) (hv : v < 4294967296) :
    ∀ (d k : Nat) (q r : Int), 2 * d + 2 ≤ k → 4294967296 ≤ r + d * 2147483648 → 0 ≤ r → r < 4294967296 → u = q * yn1 + r → 0 ≤ q → q ≤ 4294967297 → u * 4294967296 + v < q * y + y →
    ∃ k' q', k ≤ k' + (2 * d + 2) ∧ bits_Div64.l0 k y s yn1 yn0 u v un0 q r = bits_Div64.j2 k' y s yn1 yn0 u v un0 q' ∧ 0 ≤ q' ∧ q' < 4294967296 ∧ q' * y ≤ u * 4294967296 + v ∧ u * 4294967296 + v < q' * y + y := by
  intro d
  induction d with
  | zero => intro k q r _ h; intros; omega
  | succ d ih =>
    intro k q r hk hd hr0 hr hq hq0 hq1 hlt
    obtain ⟨k, rfl⟩ : ∃ m, k = m + 2 := ⟨k - 2, by omega⟩
    have dec : q ≥ 4294967296 ∨ q * yn0 > 4294967296 * r + v → ∃ k' q', k + 2 ≤ k' + (2 * (d + 1) + 2) ∧ bits_Div64.j1 (k + 1) y s yn1 yn0 u v un0 q r true = bits_Div64.j2 k' y s yn1 yn0 u v un0 q' ∧ 0 ≤ q' ∧ q' < 4294967296 ∧ q' * y ≤ u * 4294967296 + v ∧ u * 4294967296 + v < q' * y + y := by
      intro hc
      obtain ⟨g1, g2⟩ := kn_dec hy hu0 hu hv0 hv hq hq0 hc
      have e1 : (q - 1) * y = q * y - y := by rw [Int.sub_mul, Int.one_mul]
      have e2 : (q - 1) * yn1 = q * yn1 - yn1 := by rw [Int.sub_mul, Int.one_mul]
      simp only [bits_Div64.j1, ↓reduceIte]
      rw [wrap_id (x := q - 1) ⟨by omega, by omega⟩, wrap_id (x := r + yn1) ⟨by omega, by omega⟩]
      by_cases c : r + yn1 ≥ 4294967296
      · rw [if_pos c]
        have b := kn_brk (q := q - 1) (r := r + yn1) (u := u) (v := v) hy h2 h2' hv0 (by omega) (by omega) (by omega) c
        exact ⟨k, q - 1, by omega, rfl, by omega, kn_low hy hu hu0 hv b, b, by omega⟩
      · rw [if_neg c]
        obtain ⟨k', q', a1, a2, a3⟩ := ih k (q - 1) (r + yn1) (by omega) (by omega) (by omega) (by omega) (by omega) (by omega) (by omega) (by omega)
        exact ⟨k', q', by omega, a2, a3⟩
    simp only [bits_Div64.l0]
    by_cases c1 : q ≥ 4294967296
    · rw [if_pos c1]
      exact dec (.inl c1)
    · rw [if_neg c1]
      have b1 := mul_bd hq0 (by omega : q ≤ 4294967295) h2 (by omega : yn0 ≤ 4294967295)
      rw [wrap_id (x := q * yn0) ⟨by omega, by omega⟩, wrap_id (x := 4294967296 * r) ⟨by omega, by omega⟩, wrap_id (x := 4294967296 * r + v) ⟨by omega, by omega⟩]
      by_cases c2 : q * yn0 > 4294967296 * r + v
      · rw [decide_eq_true c2]
        exact dec (.inr c2)
      · rw [decide_eq_false c2]
        simp only [bits_Div64.j1, Bool.false_eq_true, ↓reduceIte]
        have e := kn_eq (q := q) hy
        exact ⟨k, q, by omega, rfl, hq0, by omega, by omega, hlt⟩
theorem Div64_l1 (y s yn1 yn0 u v q1 : Int) (hy : y = yn1 * 4294967296 + yn0) (h1 : 2147483648 ≤ yn1) (h1' : yn1 < 4294967296) (h2 : 0 ≤ yn0) (h2' : yn0 < 4294967296) (hu0 : 0 ≤ u) (hu : u < y) (hv0 : 0 ≤ v) (hv : v < 4294967296) (hs : 0 ≤ s) :
    ∀ (d k : Nat) (q r : Int), 2 * d + 2 ≤ k → 4294967296 ≤ r + d * 2147483648 → 0 ≤ r → r < 4294967296 → u = q * yn1 + r → 0 ≤ q → q ≤ 4294967297 → u * 4294967296 + v < q * y + y →
    ∃ q', bits_Div64.l1 k y s yn1 yn0 v q1 r u q = some (IntKind.u64.wrap (IntKind.u64.wrap (q1 * 4294967296) + q'), shr .u64 (IntKind.u64.wrap (IntKind.u64.wrap (IntKind.u64.wrap (u * 4294967296) + v) - IntKind.u64.wrap (q' * y))) s) ∧ 0 ≤ q' ∧ q' < 4294967296 ∧ q' * y ≤ u * 4294967296 + v ∧ u * 4294967296 + v < q' * y + y := by
  intro d
  induction d with
  | zero => intro k q r _ h; intros; omega
  | succ d ih =>
    intro k q r hk hd hr0 hr hq hq0 hq1 hlt
    obtain ⟨k, rfl⟩ : ∃ m, k = m + 2 := ⟨k - 2, by omega⟩
    have dec : q ≥ 4294967296 ∨ q * yn0 > 4294967296 * r + v → ∃ q', bits_Div64.j4 (k + 1) y s yn1 yn0 v q1 r u q true = some (IntKind.u64.wrap (IntKind.u64.wrap (q1 * 4294967296) + q'), shr .u64 (IntKind.u64.wrap (IntKind.u64.wrap (IntKind.u64.wrap (u * 4294967296) + v) - IntKind.u64.wrap (q' * y))) s) ∧ 0 ≤ q' ∧ q' < 4294967296 ∧ q' * y ≤ u * 4294967296 + v ∧ u * 4294967296 + v < q' * y + y := by
      intro hc
      obtain ⟨g1, g2⟩ := kn_dec hy hu0 hu hv0 hv hq hq0 hc
      have e1 : (q - 1) * y = q * y - y := by rw [Int.sub_mul, Int.one_mul]
      have e2 : (q - 1) * yn1 = q * yn1 - yn1 := by rw [Int.sub_mul, Int.one_mul]
      simp only [bits_Div64.j4, ↓reduceIte]
      rw [wrap_id (x := q - 1) ⟨by omega, by omega⟩, wrap_id (x := r + yn1) ⟨by omega, by omega⟩]
      by_cases c : r + yn1 ≥ 4294967296
      · rw [if_pos c, if_pos hs]
        have b := kn_brk (q := q - 1) (r := r + yn1) (u := u) (v := v) hy h2 h2' hv0 (by omega) (by omega) (by omega) c
        exact ⟨q - 1, rfl, by omega, kn_low hy hu hu0 hv b, b, by omega⟩
      · rw [if_neg c]
        exact ih k (q - 1) (r + yn1) (by omega) (by omega) (by omega) (by omega) (by omega) (by omega) (by omega) (by omega)
    simp only [bits_Div64.l1]
    by_cases c1 : q ≥ 4294967296
    · rw [if_pos c1]
      exact dec (.inl c1)
    · rw [if_neg c1]
      have b1 := mul_bd hq0 (by omega : q ≤ 4294967295) h2 (by omega : yn0 ≤ 4294967295)
      rw [wrap_id (x := q * yn0) ⟨by omega, by omega⟩, wrap_id (x := 4294967296 * r) ⟨by omega, by omega⟩, wrap_id (x := 4294967296 * r + v) ⟨by omega, by omega⟩]
      by_cases c2 : q * yn0 > 4294967296 * r + v
      · rw [decide_eq_true c2]
        exact dec (.inr c2)
      · rw [decide_eq_false c2]
        simp only [bits_Div64.j4, Bool.false_eq_true, ↓reduceIte]
        rw [if_pos hs]
        have e := kn_eq (q := q) hy
        exact ⟨q, rfl, hq0, by omega, by omega, hlt⟩
/-- bits.Div64, where the quotient fits: the quotient and the rest. -/
theorem Div64_ok (k : Nat) (hk : 20 ≤ k) (hi lo y : Int) (h0 : 0 ≤ hi) (hl : U64 lo) (hy : y < 18446744073709551616) (hlt : hi < y) :
    bits_Div64.f k hi lo y = some ((hi * 18446744073709551616 + lo) / y, (hi * 18446744073709551616 + lo) % y) := by
  obtain ⟨hl0, hl1⟩ := hl
  unfold bits_Div64.f
  rw [if_neg (by omega), if_neg (by omega)]
  by_cases c0 : hi = 0
  · subst c0
    rw [if_pos rfl, tdiv_nonneg_eq hl0, tmod_nonneg_eq hl0, wrap_id ⟨div_nonneg hl0 (by omega), ?_⟩]
    · simp
    · have := div_le hl0 (by omega : 0 < y)
      omega
  · rw [if_neg c0]
    obtain ⟨k, rfl⟩ : ∃ m, k = m + 1 := ⟨k - 1, by omega⟩
    obtain ⟨s, s1, s2, s3, s4⟩ := LeadingZeros64_ok k y (by omega) hy
    rw [s2]
    simp only [Option.bind_some]
    have P0 := two_pow_pos s
    have R0 := two_pow_pos (64 - s)
    have PR := two_pow_split s (64 - s) 64 (by omega)
    rw [show ((2 : Int) ^ 64) = 18446744073709551616 from rfl] at PR
    rw [wrap_id (x := (s : Int)) ⟨by omega, by omega⟩, wrap_id (x := 64 - (s : Int)) ⟨by omega, by omega⟩, if_pos (by omega), if_pos (by omega)]
    have es : (min ((s : Int).toNat) IntKind.u64.bits) = s := by simp [IntKind.bits] <;> omega
    have es' : (min ((64 - (s : Int)).toNat) IntKind.u64.bits) = 64 - s := by simp [IntKind.bits] <;> omega
    have eY : shl .u64 y (s : Int) = y * 2 ^ s := by unfold shl; rw [es, wrap_id ⟨by omega, s4⟩]
    have eH0 : hi * 2 ^ s ≤ y * 2 ^ s - 2 ^ s := by
      have := Int.mul_le_mul_of_nonneg_right (by omega : hi + 1 ≤ y) (Int.le_of_lt P0)
      rw [Int.add_mul, Int.one_mul] at this
      omega
    have eH1 : 0 ≤ hi * 2 ^ s := Int.mul_nonneg h0 (Int.le_of_lt P0)
    have eH : shl .u64 hi (s : Int) = hi * 2 ^ s := by unfold shl; rw [es, wrap_id ⟨eH1, by omega⟩]
    have eL : shr .u64 lo (64 - (s : Int)) = lo / 2 ^ (64 - s) := by unfold shr; rw [es']
    have eLl : lo / 2 ^ (64 - s) < 2 ^ s := div_lt R0 (by rw [PR]; exact hl1)
    have eL0 : 0 ≤ lo / 2 ^ (64 - s) := div_nonneg hl0 R0
    have eU : Go.bits .or .u64 (hi * 2 ^ s) (lo / 2 ^ (64 - s)) = hi * 2 ^ s + lo / 2 ^ (64 - s) :=
      bits_join .u64 64 (by decide) (fun n a b => wrap_id ⟨a, b⟩) s _ _ eH1 (Int.mul_emod_left _ _) (by show _ < (18446744073709551616 : Int); omega) eL0 eLl (by show _ < (18446744073709551616 : Int); omega)
    obtain ⟨d1, d2, d3⟩ := div_rest (n := lo) R0
    have eLo : lo * 2 ^ s = lo / 2 ^ (64 - s) * 18446744073709551616 + lo % 2 ^ (64 - s) * 2 ^ s := by
      conv => lhs; rw [← d1, Int.add_mul, Int.mul_assoc, Int.mul_comm (2 ^ (64 - s)), PR]
    have eR1 : lo % 2 ^ (64 - s) * 2 ^ s < 18446744073709551616 := by
      have := Int.mul_lt_mul_of_pos_right d3 P0
      rw [Int.mul_comm (2 ^ (64 - s)), PR] at this
      exact this
    have eR0 : 0 ≤ lo % 2 ^ (64 - s) * 2 ^ s := Int.mul_nonneg d2 (Int.le_of_lt P0)
    have eN : shl .u64 lo (s : Int) = lo % 2 ^ (64 - s) * 2 ^ s := by
      unfold shl
      rw [es, wrap_u64, eLo]
      omega
    have eA : Go.bits .and .u64 (y * 2 ^ s) 4294967295 = y * 2 ^ s % 4294967296 :=
      bits_mask .u64 64 (by decide) (fun n a b => wrap_id ⟨a, b⟩) 32 (by decide) _ (by omega) (by show _ < (18446744073709551616 : Int); omega)
    have eB : Go.bits .and .u64 (lo % 2 ^ (64 - s) * 2 ^ s) 4294967295 = lo % 2 ^ (64 - s) * 2 ^ s % 4294967296 :=
      bits_mask .u64 64 (by decide) (fun n a b => wrap_id ⟨a, b⟩) 32 (by decide) _ eR0 (by show _ < (18446744073709551616 : Int); omega)
    rw [eY, eH, eL, eN, eU, eA, eB]
    have eT : (hi * 18446744073709551616 + lo) * 2 ^ s = (hi * 2 ^ s + lo / 2 ^ (64 - s)) * 18446744073709551616 + lo % 2 ^ (64 - s) * 2 ^ s := by
      rw [Int.add_mul, eLo, Int.add_mul, Int.mul_assoc, Int.mul_comm 18446744073709551616 (2 ^ s), ← Int.mul_assoc]
      omega
    obtain ⟨z1, z2⟩ := div_scale (n := hi * 18446744073709551616 + lo) (y := y) P0 (by omega)
    rw [← z1, eT] at *
    generalize hU : hi * 2 ^ s + lo / 2 ^ (64 - s) = U at *
    generalize hV : lo % 2 ^ (64 - s) * 2 ^ s = V at *
    generalize hY : y * 2 ^ s = Y at *
    have hUY : U < Y := by omega
    have hU0 : 0 ≤ U := by omega
    have y1 : Y = Y / 4294967296 * 4294967296 + Y % 4294967296 := by omega
    rw [if_neg (by omega)]
    have n1 : 0 < Y / 4294967296 := by omega
    obtain ⟨g1, g2, g3⟩ := div_rest (n := U) n1
    have gq : U / (Y / 4294967296) < 4294967298 := div_lt n1 (by omega)
    have gq0 := div_nonneg hU0 n1
    rw [tdiv_nonneg_eq hU0, wrap_id (x := U / (Y / 4294967296)) ⟨gq0, by omega⟩]
    have gp0 : 0 ≤ U / (Y / 4294967296) * (Y / 4294967296) := Int.mul_nonneg gq0 (by omega)
    rw [wrap_id (x := U / (Y / 4294967296) * (Y / 4294967296)) ⟨gp0, by omega⟩, wrap_id (x := U - U / (Y / 4294967296) * (Y / 4294967296)) ⟨by omega, by omega⟩]
    have start : ∀ (u v : Int), 0 ≤ u → u < Y → 0 ≤ v → v < 4294967296 → u * 4294967296 + v < u / (Y / 4294967296) * Y + Y := by
      intro u v hu0 huY hv0 hv
      obtain ⟨f1, f2, f3⟩ := div_rest (n := u) n1
      have e := kn_eq (q := u / (Y / 4294967296)) y1
      have := Int.mul_nonneg (div_nonneg hu0 n1) (by omega : 0 ≤ Y % 4294967296)
      omega
    obtain ⟨k', q1, a1, a2, a3, a4, a5, a6⟩ := Div64_l0 Y s (Y / 4294967296) (Y % 4294967296) U (V / 4294967296) (V % 4294967296) y1 (by omega) (by omega) (by omega) (by omega) hU0 hUY (by omega) (by omega) 2 (k + 1) (U / (Y / 4294967296)) (U - U / (Y / 4294967296) * (Y / 4294967296)) (by omega) (by omega) (by omega) (by omega) (by omega) gq0 (by omega) (start U _ hU0 hUY (by omega) (by omega))
    rw [a2]
    obtain ⟨k', rfl⟩ : ∃ m, k' = m + 1 := ⟨k' - 1, by omega⟩
    simp only [bits_Div64.j2]
    rw [if_neg (by omega)]
    have w1 : IntKind.u64.wrap (IntKind.u64.wrap (IntKind.u64.wrap (U * 4294967296) + V / 4294967296) - IntKind.u64.wrap (q1 * Y)) = U * 4294967296 + V / 4294967296 - q1 * Y := by
      simp only [wrap_u64]
      omega
    rw [w1]
    generalize hu2 : U * 4294967296 + V / 4294967296 - q1 * Y = u2 at *
    obtain ⟨b1, b2, b3⟩ := div_rest (n := u2) n1
    have bq : u2 / (Y / 4294967296) < 4294967298 := div_lt n1 (by omega)
    have bq0 := div_nonneg (by omega : 0 ≤ u2) n1
    rw [tdiv_nonneg_eq (by omega : 0 ≤ u2), wrap_id (x := u2 / (Y / 4294967296)) ⟨bq0, by omega⟩]
    have bp0 : 0 ≤ u2 / (Y / 4294967296) * (Y / 4294967296) := Int.mul_nonneg bq0 (by omega)
    rw [wrap_id (x := u2 / (Y / 4294967296) * (Y / 4294967296)) ⟨bp0, by omega⟩, wrap_id (x := u2 - u2 / (Y / 4294967296) * (Y / 4294967296)) ⟨by omega, by omega⟩]
    obtain ⟨q0, c1, c2, c3, c4, c5⟩ := Div64_l1 Y s (Y / 4294967296) (Y % 4294967296) u2 (V % 4294967296) q1 y1 (by omega) (by omega) (by omega) (by omega) (by omega) (by omega) (by omega) (by omega) (by omega) 2 k' (u2 / (Y / 4294967296)) (u2 - u2 / (Y / 4294967296) * (Y / 4294967296)) (by omega) (by omega) (by omega) (by omega) (by omega) bq0 (by omega) (start u2 _ (by omega) (by omega) (by omega) (by omega))
    rw [c1]
    have eq : (q1 * 4294967296 + q0) * Y = q1 * Y * 4294967296 + q0 * Y := by
      rw [Int.add_mul, Int.mul_assoc, Int.mul_comm 4294967296 Y, ← Int.mul_assoc]
    obtain ⟨r1, r2⟩ := div_uniq (n := U * 18446744073709551616 + V) (y := Y) (q := q1 * 4294967296 + q0) (by omega) (by omega)
    have w2 : IntKind.u64.wrap (IntKind.u64.wrap (IntKind.u64.wrap (u2 * 4294967296) + V % 4294967296) - IntKind.u64.wrap (q0 * Y)) = u2 * 4294967296 + V % 4294967296 - q0 * Y := by
      simp only [wrap_u64]
      omega
    have w3 : IntKind.u64.wrap (IntKind.u64.wrap (q1 * 4294967296) + q0) = q1 * 4294967296 + q0 := by
      simp only [wrap_u64]
      omega
    rw [w2, w3, r1]
    have w4 : u2 * 4294967296 + V % 4294967296 - q0 * Y = (U * 18446744073709551616 + V) % Y := by rw [r2]; omega
    rw [w4, z2]
    unfold shr
    rw [es, Int.mul_ediv_cancel _ (by omega)]
/-- The number that two words stand for. -/
def wv (h l : Int) : Int := h * 18446744073709551616 + l
theorem wv_of {n : Int} : wv (n / 18446744073709551616) (n % 18446744073709551616) = n := by unfold wv; omega
theorem wv_zero {l : Int} : wv 0 l = l := by unfold wv; omega
theorem U64_hi {n : Int} (h0 : 0 ≤ n) (h1 : n < 340282366920938463463374607431768211456) : U64 (n / 18446744073709551616) := ⟨by omega, by omega⟩
theorem U64_lo {n : Int} : U64 (n % 18446744073709551616) := ⟨by omega, by omega⟩
theorem U64_zero : U64 0 := ⟨by decide, by decide⟩

section
variable {a0 a1 b0 b1 : Int}
theorem wide_Add_ok (h0 : U64 a0) (h1 : U64 a1) (h2 : U64 b0) (h3 : U64 b1) (h : wv a0 a1 + wv b0 b1 < 340282366920938463463374607431768211456) :
    wide_Add.f a0 a1 b0 b1 = some ((wv a0 a1 + wv b0 b1) / 18446744073709551616, (wv a0 a1 + wv b0 b1) % 18446744073709551616, 0) := by
  obtain ⟨_, _⟩ := h0; obtain ⟨_, _⟩ := h1; obtain ⟨_, _⟩ := h2; obtain ⟨_, _⟩ := h3
  unfold wv at *
  unfold wide_Add.f bits_Add64.f
  rw [if_pos ⟨by omega, by omega, by omega, by omega⟩]
  simp only [Option.bind_some]
  rw [if_pos ⟨by omega, by omega, by omega, by omega⟩]
  simp only [Option.bind_some]
  rw [if_pos (by omega)]
  congr 3 <;> omega
theorem wide_Small_ok (h0 : a0 = 0) : wide_Small.f a0 a1 = some (a1, 0) := by unfold wide_Small.f; rw [if_pos h0]
theorem wide_Small_err (h0 : a0 ≠ 0) : wide_Small.f a0 a1 = some (0, 16) := by unfold wide_Small.f; rw [if_neg h0]
theorem wide_Of_ok : wide_Of.f a0 = some (0, a0) := rfl
end
theorem and_mask {x : Int} (h0 : 0 ≤ x) (h1 : x < 18446744073709551616) : Go.bits .and .u64 x 4294967295 = x % 4294967296 :=
  bits_mask .u64 64 (by decide) (fun n a b => wrap_id ⟨a, b⟩) 32 (by decide) x h0 h1
theorem mul_parts (x y : Int) : x * y = (x / 4294967296) * (y / 4294967296) * 18446744073709551616 + ((x / 4294967296) * (y % 4294967296) + (x % 4294967296) * (y / 4294967296)) * 4294967296 + (x % 4294967296) * (y % 4294967296) := by
  have hx : x = x / 4294967296 * 4294967296 + x % 4294967296 := by omega
  have hy : y = y / 4294967296 * 4294967296 + y % 4294967296 := by omega
  generalize x / 4294967296 = x1 at *
  generalize x % 4294967296 = x0 at *
  generalize y / 4294967296 = y1 at *
  generalize y % 4294967296 = y0 at *
  subst hx; subst hy
  rw [Int.add_mul, Int.mul_add, Int.mul_add]
  have e1 : x1 * 4294967296 * (y1 * 4294967296) = x1 * y1 * 18446744073709551616 := by
    rw [Int.mul_assoc, Int.mul_comm 4294967296 (y1 * 4294967296), Int.mul_assoc y1, ← Int.mul_assoc]; rfl
  have e2 : x1 * 4294967296 * y0 = x1 * y0 * 4294967296 := by rw [Int.mul_assoc, Int.mul_comm 4294967296, ← Int.mul_assoc]
  have e3 : x0 * (y1 * 4294967296) = x0 * y1 * 4294967296 := by rw [Int.mul_assoc]
  rw [e1, e2, e3]
  omega
section
variable {x y : Int}
theorem parts_bd (hx : U64 x) (hy : U64 y) :
    (0 ≤ (x / 4294967296) * (y / 4294967296) ∧ (x / 4294967296) * (y / 4294967296) ≤ 18446744065119617025) ∧ (0 ≤ (x / 4294967296) * (y % 4294967296) ∧ (x / 4294967296) * (y % 4294967296) ≤ 18446744065119617025) ∧
    (0 ≤ (x % 4294967296) * (y / 4294967296) ∧ (x % 4294967296) * (y / 4294967296) ≤ 18446744065119617025) ∧ (0 ≤ (x % 4294967296) * (y % 4294967296) ∧ (x % 4294967296) * (y % 4294967296) ≤ 18446744065119617025) := by
  obtain ⟨_, _⟩ := hx; obtain ⟨_, _⟩ := hy
  have b : ∀ a b : Int, 0 ≤ a → a ≤ 4294967295 → 0 ≤ b → b ≤ 4294967295 → 0 ≤ a * b ∧ a * b ≤ 18446744065119617025 := fun a b h0 h1 h2 h3 => mul_bd h0 h1 h2 h3
  exact ⟨b _ _ (by omega) (by omega) (by omega) (by omega), b _ _ (by omega) (by omega) (by omega) (by omega), b _ _ (by omega) (by omega) (by omega) (by omega), b _ _ (by omega) (by omega) (by omega) (by omega)⟩
theorem bits_Mul64_ok (hx : U64 x) (hy : U64 y) : bits_Mul64.f x y = some (x * y / 18446744073709551616, x * y % 18446744073709551616) := by
  obtain ⟨⟨a1, a2⟩, ⟨b1, b2⟩, ⟨c1, c2⟩, ⟨d1, d2⟩⟩ := parts_bd hx hy
  have e := mul_parts x y
  obtain ⟨hx0, hx1⟩ := hx; obtain ⟨hy0, hy1⟩ := hy
  unfold bits_Mul64.f
  rw [and_mask hx0 hx1, and_mask hy0 hy1, wrap_u64 (x * y)]
  generalize x / 4294967296 * (y / 4294967296) = p11 at *
  generalize x / 4294967296 * (y % 4294967296) = p10 at *
  generalize x % 4294967296 * (y / 4294967296) = p01 at *
  generalize x % 4294967296 * (y % 4294967296) = p00 at *
  generalize x * y = n at *
  rw [wrap_id (x := p11) ⟨by omega, by omega⟩, wrap_id (x := p10) ⟨by omega, by omega⟩, wrap_id (x := p00) ⟨by omega, by omega⟩, wrap_id (x := p01) ⟨by omega, by omega⟩,
    wrap_id (x := p10 + p00 / 4294967296) ⟨by omega, by omega⟩, and_mask (by omega) (by omega), wrap_id (x := (p10 + p00 / 4294967296) % 4294967296 + p01) ⟨by omega, by omega⟩,
    wrap_id (x := p11 + (p10 + p00 / 4294967296) / 4294967296) ⟨by omega, by omega⟩, wrap_id ⟨by omega, by omega⟩]
  congr 2
  omega
theorem wide_Mul_ok (hx : U64 x) (hy : U64 y) : wide_Mul.f x y = some (x * y / 18446744073709551616, x * y % 18446744073709551616) := by
  unfold wide_Mul.f
  rw [bits_Mul64_ok hx hy]
  rfl
end
section
variable {a0 a1 d : Int}
theorem wide_Div_ok (k : Nat) (hk : 20 ≤ k) (h0 : U64 a0) (h1 : U64 a1) (hd : 0 < d) (hd1 : d < 18446744073709551616) :
    wide_Div.f k a0 a1 d = some (wv a0 a1 / d / 18446744073709551616, wv a0 a1 / d % 18446744073709551616, wv a0 a1 % d, 0) := by
  obtain ⟨r1, r2, r3⟩ := div_rest (n := a0) hd
  have l0 := div_nonneg h0.1 hd
  have l1 := div_le h0.1 hd
  unfold wide_Div.f
  rw [if_neg (by omega), Div64_ok k hk 0 a0 d (by omega) h0 hd1 hd]
  simp only [Option.bind_some, Int.zero_mul, Int.zero_add]
  rw [Div64_ok k hk (a0 % d) a1 d r2 h1 hd1 r3]
  simp only [Option.bind_some]
  obtain ⟨g1, g2⟩ := h1
  obtain ⟨s1, s2, s3⟩ := div_rest (n := a0 % d * 18446744073709551616 + a1) hd
  have q0 := div_nonneg (n := a0 % d * 18446744073709551616 + a1) (by omega) hd
  have q1 : (a0 % d * 18446744073709551616 + a1) / d < 18446744073709551616 := div_lt hd (by omega)
  generalize (a0 % d * 18446744073709551616 + a1) / d = Q at *
  generalize (a0 % d * 18446744073709551616 + a1) % d = R at *
  generalize a0 / d = P at *
  have e : (P * 18446744073709551616 + Q) * d = P * d * 18446744073709551616 + Q * d := by
    rw [Int.add_mul, Int.mul_assoc, Int.mul_comm 18446744073709551616 d, ← Int.mul_assoc]
  obtain ⟨z1, z2⟩ := div_uniq (n := wv a0 a1) (y := d) (q := P * 18446744073709551616 + Q) (by unfold wv; omega) (by unfold wv; omega)
  rw [z1, z2, e]
  unfold wv
  congr 2
  · omega
  · congr 2
    · omega
    · congr 1
      omega
end
/-- A valid limit: Burst, Rate, Per. -/
def VL (b r p : Int) : Prop := 1 ≤ b ∧ b ≤ 1000000000 ∧ 0 ≤ r ∧ r ≤ 1000000000 ∧ 1 ≤ p ∧ p ≤ 1000000000
/-- A valid bucket: its limit, Level, Part, At. -/
def VB (b r p l q t : Int) : Prop := VL b r p ∧ 0 ≤ l ∧ l ≤ b ∧ 0 ≤ q ∧ q < p ∧ (l = b → q = 0) ∧ U64 t
section
variable {b r p l q t s : Int}
theorem CheckLimit_ok (h : VL b r p) : bucket_CheckLimit.f b r p = some 0 := by
  obtain ⟨_, _, _, _, _, _⟩ := h
  unfold bucket_CheckLimit.f
  rw [if_neg (by omega), if_neg (by omega), if_neg (by omega), if_neg (by omega), if_neg (by omega), if_neg (by omega)]
theorem Check_ok (h : VB b r p l q t) : bucket_Check.f b r p l q t = some 0 := by
  obtain ⟨hl, h1, h2, h3, h4, h5, _⟩ := h
  have hb := hl.1
  have hb' := hl.2.1
  unfold bucket_Check.f
  rw [CheckLimit_ok hl]
  simp only [Option.bind_some, ↓reduceIte]
  rw [if_neg (by omega), wrap64_id (x := b - l) (by omega) (by omega), if_neg (by omega), if_neg (by omega), if_neg (by omega)]
  by_cases c : b - l = 0
  · rw [if_pos c, if_neg (by have := h5 (by omega); omega)]
  · rw [if_neg c]
/-- Level, Part and At behind a refill at t. -/
def fN (r q s t : Int) : Int := (t - s) * r + q
def fL (b r p l q s t : Int) : Int := if t ≤ s then l else if fN r q s t / p ≥ b - l then b else l + fN r q s t / p
def fP (b r p l q s t : Int) : Int := if t ≤ s then q else if fN r q s t / p ≥ b - l then 0 else fN r q s t % p
def fT (s t : Int) : Int := if t ≤ s then s else t
theorem fN_bd (hv : VB b r p l q s) (ht : U64 t) (h : s ≤ t) : 0 ≤ fN r q s t ∧ fN r q s t ≤ 18446744073709551615000000000 + 1000000000 ∧ 0 ≤ (t - s) * r ∧ (t - s) * r ≤ 18446744073709551615000000000 := by
  obtain ⟨⟨_, _, _, _, _, _⟩, _, _, _, _, _, ⟨_, _⟩⟩ := hv
  obtain ⟨_, _⟩ := ht
  have := mul_bd (by omega : 0 ≤ t - s) (by omega : t - s ≤ 18446744073709551615) (by assumption : 0 ≤ r) (by assumption : r ≤ 1000000000)
  unfold fN
  omega
theorem fill_ok (k : Nat) (hk : 20 ≤ k) (hv : VB b r p l q s) (ht : U64 t) : bucket_fill.f k b r p l q s t = some (b, r, p, fL b r p l q s t, fP b r p l q s t, fT s t) := by
  unfold bucket_fill.f fL fP fT
  by_cases c : t ≤ s
  · rw [if_pos c, if_pos c, if_pos c, if_pos c]
  · rw [if_neg c, if_neg c, if_neg c, if_neg c]
    obtain ⟨n0, n1, m0, m1⟩ := fN_bd hv ht (by omega : s ≤ t)
    obtain ⟨⟨b0, b1, r0, r1, p0, p1⟩, l0, l1, q0, q1, _, ⟨s0, s1⟩⟩ := hv
    obtain ⟨t0, t1⟩ := ht
    have ur : U64 r := ⟨by omega, by omega⟩
    have uq : U64 q := ⟨by omega, by omega⟩
    have up : U64 p := ⟨by omega, by omega⟩
    have ud : U64 (t - s) := ⟨by omega, by omega⟩
    have ub : U64 (b - l) := ⟨by omega, by omega⟩
    rw [wrap_id ud, wrap_id ur, wrap_id uq, wrap_id up, wide_Mul_ok ud ur, wide_Of_ok]
    simp only [Option.bind_some]
    rw [wide_Add_ok (U64_hi m0 (by omega)) U64_lo U64_zero uq (by rw [wv_of, wv_zero]; omega), wv_of, wv_zero]
    simp only [Option.bind_some]
    have e : (t - s) * r + q = fN r q s t := rfl
    rw [e, wide_Div_ok k hk (U64_hi n0 (by omega)) U64_lo (by omega) up.2, wv_of]
    simp only [Option.bind_some]
    have d0 := div_nonneg n0 (by omega : 0 < p)
    obtain ⟨e1, e2, e3⟩ := div_rest (n := fN r q s t) (by omega : 0 < p)
    by_cases c2 : fN r q s t / p < 18446744073709551616
    · rw [wide_Small_ok (by omega)]
      simp only [Option.bind_some, ↓reduceIte]
      rw [wrap64_id (x := b - l) (by omega) (by omega), wrap_id ub, show fN r q s t / p % 18446744073709551616 = fN r q s t / p by omega]
      by_cases c3 : fN r q s t / p ≥ b - l
      · rw [if_pos c3, if_pos c3, if_pos c3]
      · rw [if_neg c3, if_neg c3, if_neg c3, wrap64_id (x := fN r q s t / p) (by omega) (by omega), wrap64_id (by omega) (by omega), wrap64_id (by omega) (by omega)]
    · rw [wide_Small_err (by omega)]
      simp only [Option.bind_some]
      rw [if_neg (by decide), if_pos (by omega), if_pos (by omega)]
/-- What a bucket holds behind a refill, in parts. -/
theorem fill_amt (hv : VB b r p l q s) (h : s ≤ t) :
    (l * p + q + (t - s) * r < b * p → fL b r p l q s t * p + fP b r p l q s t = l * p + q + (t - s) * r) ∧ (b * p ≤ l * p + q + (t - s) * r → fL b r p l q s t = b ∧ fP b r p l q s t = 0) := by
  obtain ⟨⟨b0, b1, r0, r1, p0, p1⟩, l0, l1, q0, q1, hf, _⟩ := hv
  unfold fL fP
  by_cases c : t ≤ s
  · rw [if_pos c, if_pos c]
    have : t = s := by omega
    subst this
    rw [Int.sub_self, Int.zero_mul, Int.add_zero]
    refine ⟨fun _ => rfl, fun h => ?_⟩
    rcases Int.lt_or_le l b with g | g
    · have := Int.mul_le_mul_of_nonneg_right (by omega : l + 1 ≤ b) (by omega : 0 ≤ p)
      rw [Int.add_mul, Int.one_mul] at this
      omega
    · exact ⟨by omega, hf (by omega)⟩
  · rw [if_neg c, if_neg c]
    obtain ⟨e1, e2, e3⟩ := div_rest (n := fN r q s t) (by omega : 0 < p)
    have ef : fN r q s t = (t - s) * r + q := rfl
    by_cases c3 : fN r q s t / p ≥ b - l
    · rw [if_pos c3, if_pos c3]
      have h1 := Int.mul_le_mul_of_nonneg_right c3 (by omega : 0 ≤ p)
      rw [Int.sub_mul] at h1
      exact ⟨fun h => by omega, fun _ => ⟨rfl, rfl⟩⟩
    · rw [if_neg c3, if_neg c3]
      have h1 := Int.mul_le_mul_of_nonneg_right (by omega : fN r q s t / p + 1 ≤ b - l) (by omega : 0 ≤ p)
      rw [Int.sub_mul, Int.add_mul, Int.one_mul] at h1
      rw [Int.add_mul]
      exact ⟨fun _ => by omega, fun h => by omega⟩
theorem fT_U64 (hs : U64 s) (ht : U64 t) : U64 (fT s t) := by unfold fT; split <;> assumption
theorem fill_valid (hv : VB b r p l q s) (ht : U64 t) : VB b r p (fL b r p l q s t) (fP b r p l q s t) (fT s t) := by
  have hv0 := hv
  obtain ⟨hl, l0, l1, q0, q1, hf, hs⟩ := hv
  refine ⟨hl, ?_⟩
  have hT := fT_U64 hs ht
  obtain ⟨b0, b1, r0, r1, p0, p1⟩ := hl
  by_cases c : t ≤ s
  · unfold fL fP
    rw [if_pos c, if_pos c]
    exact ⟨l0, l1, q0, q1, hf, hT⟩
  · obtain ⟨n0, n1, m0, m1⟩ := fN_bd hv0 ht (by omega : s ≤ t)
    unfold fL fP
    rw [if_neg c, if_neg c]
    obtain ⟨e1, e2, e3⟩ := div_rest (n := fN r q s t) (by omega : 0 < p)
    have d0 := div_nonneg n0 (by omega : 0 < p)
    by_cases c3 : fN r q s t / p ≥ b - l
    · rw [if_pos c3, if_pos c3]
      exact ⟨by omega, by omega, by omega, by omega, fun _ => rfl, hT⟩
    · rw [if_neg c3, if_neg c3]
      exact ⟨by omega, by omega, e2, e3, fun h => by omega, hT⟩
/-- Amounts tell Level and Part. -/
theorem amt_inj {l q l' q' p : Int} (q0 : 0 ≤ q) (q1 : q < p) (q0' : 0 ≤ q') (q1' : q' < p) (h : l * p + q = l' * p + q') : l = l' ∧ q = q' := by
  obtain ⟨a, b⟩ := div_uniq (n := l * p + q) (y := p) (q := l) (by omega) (by omega)
  obtain ⟨a', b'⟩ := div_uniq (n := l' * p + q') (y := p) (q := l') (by omega) (by omega)
  rw [h] at a b
  exact ⟨by omega, by omega⟩
theorem Refill_ok (k : Nat) (hk : 20 ≤ k) (hv : VB b r p l q s) (ht : U64 t) : bucket_Refill.f k b r p l q s t = some (b, r, p, fL b r p l q s t, fP b r p l q s t, fT s t, 0) := by
  unfold bucket_Refill.f
  rw [Check_ok hv]
  simp only [Option.bind_some, ↓reduceIte]
  rw [fill_ok k hk hv ht]
  rfl
theorem Charge_low (hv : VB b r p l q s) {c : Int} (hc : 0 ≤ c) (h : l < c) : bucket_Charge.f b r p l q s c = some (0, 0, 0, 0, 0, 0, 20) := by
  unfold bucket_Charge.f
  rw [Check_ok hv]
  simp only [Option.bind_some, ↓reduceIte]
  rw [if_neg (by omega), if_pos h]
theorem Charge_ok (hv : VB b r p l q s) {c : Int} (hc : 0 ≤ c) (h : c ≤ l) : bucket_Charge.f b r p l q s c = some (b, r, p, l - c, q, s, 0) := by
  unfold bucket_Charge.f
  rw [Check_ok hv]
  simp only [Option.bind_some, ↓reduceIte]
  obtain ⟨⟨_, _, _, _, _, _⟩, _, _, _, _, _, _⟩ := hv
  rw [if_neg (by omega), if_neg (by omega), wrap64_id (by omega) (by omega)]
theorem charge_valid (hv : VB b r p l q s) {c : Int} (hc : 0 ≤ c) (h : c ≤ l) : VB b r p (l - c) q s := by
  obtain ⟨hl, l0, l1, q0, q1, hf, hs⟩ := hv
  exact ⟨hl, by omega, by omega, q0, q1, fun e => hf (by omega), hs⟩
theorem Full_ok (h : VL b r p) : bucket_Full.f b r p t = some (b, r, p, b, 0, t, 0) := by unfold bucket_Full.f; rw [CheckLimit_ok h]; rfl
theorem full_valid (h : VL b r p) (ht : U64 t) : VB b r p b 0 t := ⟨h, by have := h.1; omega, by omega, by omega, by have := h.2.2.2.2.1; omega, fun _ => rfl, ht⟩
end
section
variable {b r p l q s t u c : Int}
/-- The parts of a bucket, refilled at t. -/
def fA (b r p l q s t : Int) : Int := fL b r p l q s t * p + fP b r p l q s t
theorem fA_eq (hv : VB b r p l q s) : fA b r p l q s t = if t ≤ s then l * p + q else if l * p + q + (t - s) * r < b * p then l * p + q + (t - s) * r else b * p := by
  unfold fA
  by_cases h : t ≤ s
  · rw [if_pos h]
    unfold fL fP
    rw [if_pos h, if_pos h]
  · rw [if_neg h]
    obtain ⟨f1, f2⟩ := fill_amt hv (by omega : s ≤ t)
    by_cases g : l * p + q + (t - s) * r < b * p
    · rw [if_pos g, f1 g]
    · rw [if_neg g]
      obtain ⟨e1, e2⟩ := f2 (by omega)
      rw [e1, e2]
      omega
theorem amt_le (hv : VB b r p l q s) : 0 ≤ l * p + q ∧ l * p + q ≤ b * p := by
  obtain ⟨⟨b0, b1, r0, r1, p0, p1⟩, l0, l1, q0, q1, hf, hs⟩ := hv
  have h0 := Int.mul_nonneg l0 (by omega : 0 ≤ p)
  rcases Int.lt_or_le l b with g | g
  · have := Int.mul_le_mul_of_nonneg_right (by omega : l + 1 ≤ b) (by omega : 0 ≤ p)
    rw [Int.add_mul, Int.one_mul] at this
    omega
  · have e : l = b := by omega
    subst e
    have := hf rfl
    omega
theorem fA_le (hv : VB b r p l q s) (ht : U64 t) : fA b r p l q s t ≤ b * p := (amt_le (fill_valid hv ht)).2
/-- Level and Part are known by the parts. -/
theorem of_fA {b' r' l' q' s' t' : Int} (hv : VB b r p l q s) (hv' : VB b' r' p l' q' s') (ht : U64 t) (ht' : U64 t') (h : fA b r p l q s t = fA b' r' p l' q' s' t') : fL b r p l q s t = fL b' r' p l' q' s' t' ∧ fP b r p l q s t = fP b' r' p l' q' s' t' := by
  obtain ⟨_, _, _, a0, a1, _⟩ := fill_valid hv ht
  obtain ⟨_, _, _, b0, b1, _⟩ := fill_valid hv' ht'
  exact amt_inj a0 a1 b0 b1 h
theorem fill_fill (hv : VB b r p l q s) (hu : U64 u) (ht : U64 t) (h : u ≤ t) :
    fL b r p (fL b r p l q s u) (fP b r p l q s u) (fT s u) t = fL b r p l q s t ∧ fP b r p (fL b r p l q s u) (fP b r p l q s u) (fT s u) t = fP b r p l q s t ∧ fT (fT s u) t = fT s t := by
  have hw := fill_valid hv hu
  have e3 : fT (fT s u) t = fT s t := by unfold fT; split <;> split <;> (try split) <;> omega
  have key : fA b r p (fL b r p l q s u) (fP b r p l q s u) (fT s u) t = fA b r p l q s t := by
    rw [fA_eq hw, fA_eq hv]
    have e : fL b r p l q s u * p + fP b r p l q s u = fA b r p l q s u := rfl
    rw [e, fA_eq hv]
    have r0 := hv.1.2.2.1
    by_cases c1 : u ≤ s
    · have e2 : fT s u = s := by unfold fT; rw [if_pos c1]
      rw [if_pos c1, e2]
    · have e2 : fT s u = u := by unfold fT; rw [if_neg c1]
      rw [if_neg c1, e2]
      have m1 : (t - s) * r = (u - s) * r + (t - u) * r := by rw [← Int.add_mul]; congr 1; omega
      have m2 := Int.mul_nonneg (by omega : 0 ≤ t - u) r0
      have m3 := Int.mul_nonneg (by omega : 0 ≤ u - s) r0
      by_cases c2 : t ≤ u
      · have e4 : t = u := by omega
        subst e4
        rw [if_pos (Int.le_refl _), if_neg c1]
      · rw [if_neg c2, if_neg (show ¬ t ≤ s by omega)]
        split <;> split <;> (try split) <;> omega
  obtain ⟨e1, e2⟩ := of_fA hw hv ht ht key
  exact ⟨e1, e2, e3⟩
/-- What is left of a bucket that gave c is, refilled, no less than the bucket, refilled, less c. -/
theorem fA_take (hv : VB b r p l q s) (h0 : 0 ≤ c) (h1 : c ≤ l) : fA b r p l q s t - c * p ≤ fA b r p (l - c) q s t := by
  have ec : (l - c) * p = l * p - c * p := Int.sub_mul ..
  rw [fA_eq hv, fA_eq (charge_valid hv h0 h1)]
  have := Int.mul_nonneg h0 (by have := hv.1.2.2.2.2.1; omega : 0 ≤ p)
  split
  · omega
  · split <;> split <;> omega
/-- A bucket holds a cost exactly if its parts are enough. -/
theorem fL_iff (hv : VB b r p l q s) (ht : U64 t) : c ≤ fL b r p l q s t ↔ c * p ≤ fA b r p l q s t := by
  obtain ⟨⟨_, _, _, _, p0, _⟩, _, _, a0, a1, _⟩ := fill_valid hv ht
  unfold fA
  constructor
  · intro h
    have := Int.mul_le_mul_of_nonneg_right h (by omega : 0 ≤ p)
    omega
  · intro h
    rcases Int.lt_or_le (fL b r p l q s t) c with g | g
    · have := Int.mul_le_mul_of_nonneg_right (by omega : fL b r p l q s t + 1 ≤ c) (by omega : 0 ≤ p)
      rw [Int.add_mul, Int.one_mul] at this
      omega
    · exact g
end
/-! #### a bucket with the limit of a window: Burst and Rate are cap, Per is span -/
theorem fT_aft {s t : Int} (h : s ≤ t) : fT s t = t := by unfold fT; split <;> omega
def passL (cap span : Int) : Int → Int → Int → List S58 → List S58
  | _, _, _, [] => []
  | l, q, s, x :: c => if x.f1 ≤ fL cap cap span l q s x.f0 then x :: passL cap span (fL cap cap span l q s x.f0 - x.f1) (fP cap cap span l q s x.f0) (fT s x.f0) c
    else passL cap span (fL cap cap span l q s x.f0) (fP cap cap span l q s x.f0) (fT s x.f0) c
theorem passL_sub (cap span : Int) : ∀ (c : List S58) (l q s : Int), (passL cap span l q s c).Sublist c
  | [], _, _, _ => List.Sublist.refl _
  | x :: c, l, q, s => by
    unfold passL
    split
    · exact (passL_sub cap span c _ _ _).cons_cons x
    · exact (passL_sub cap span c _ _ _).cons x
/-- Ticks that do not fall, from s on. -/
def asc : Int → List S58 → Prop
  | _, [] => True
  | s, x :: c => s ≤ x.f0 ∧ U64 x.f0 ∧ asc x.f0 c
theorem window_pass {cap span : Int} (hs : 0 < span) : ∀ (c acc : List S58) (l q s : Int), VB cap cap span l q s → asc s c → posC c → posC acc → (∀ y ∈ acc, y.f0 ≤ s) → okA cap (inS span) c acc →
    (∀ t, U64 t → s ≤ t → cap * span - span * sB (inS span t) acc ≤ fA cap cap span l q s t) → passL cap span l q s c = c
  | [], _, _, _, _, _, _, _, _, _, _, _ => rfl
  | x :: c, acc, l, q, s, hv, ha, hp, hpa, hle, ⟨h1, h2⟩, hI => by
    obtain ⟨a1, a2, a3⟩ := ha
    have hfT : fT s x.f0 = x.f0 := fT_aft a1
    have hw := fill_valid hv a2
    have p0 := hp x List.mem_cons_self
    have hx := hI x.f0 a2 a1
    have hcap : x.f1 ≤ fL cap cap span l q s x.f0 := by
      rw [fL_iff hv a2]
      have h3 := Int.mul_le_mul_of_nonneg_left h1 (by omega : 0 ≤ span)
      rw [Int.mul_add] at h3
      rw [Int.mul_comm x.f1 span]
      rw [Int.mul_comm span cap] at h3
      omega
    have hv2 := charge_valid hw p0 hcap
    unfold passL
    rw [if_pos hcap]
    rw [hfT] at hv2 hw ⊢
    have ih := window_pass hs c (x :: acc) _ _ _ hv2 a3 (fun y hy => hp y (List.mem_cons_of_mem _ hy)) (fun y hy => by
      rcases List.mem_cons.1 hy with e | hy
      · rw [e]; exact p0
      · exact hpa y hy) (fun y hy => by
      rcases List.mem_cons.1 hy with e | hy
      · rw [e]; exact Int.le_refl _
      · exact Int.le_trans (hle y hy) a1) h2 ?_
    · rw [ih]
    · intro t ht hxt
      have hn := sB_nonneg (p := inS span t) hpa
      have cap0 : 0 ≤ cap := by have := hv.1.1; omega
      obtain ⟨e1, e2, e3⟩ := fill_fill hv a2 ht hxt
      rw [hfT] at e1 e2
      have key : fA cap cap span (fL cap cap span l q s x.f0) (fP cap cap span l q s x.f0) x.f0 t = fA cap cap span l q s t := by
        unfold fA
        rw [e1, e2]
      by_cases w : inS span t x.f0 = true
      · have hk := fA_take (t := t) hw p0 hcap
        rw [key] at hk
        have := hI t ht (Int.le_trans a1 hxt)
        have e4 : sB (inS span t) (x :: acc) = x.f1 + sB (inS span t) acc := by
          show (if inS span t x.f0 = true then _ else _) = _
          rw [if_pos w]
        rw [e4, Int.mul_add, Int.mul_comm span x.f1]
        omega
      · have e4 : sB (inS span t) (x :: acc) = 0 := by
          show (if inS span t x.f0 = true then _ else _) = _
          rw [if_neg w]
        rw [e4, Int.mul_zero, Int.sub_zero, fA_eq hv2]
        have hge : span ≤ t - x.f0 := by
          unfold inS at w
          rw [decide_eq_true_iff] at w
          omega
        have h5 := amt_le hv2
        have h6 := Int.mul_le_mul_of_nonneg_right hge cap0
        rw [Int.mul_comm span cap] at h6
        rw [if_neg (by omega)]
        split <;> omega
/-- The bound of what passes. -/
theorem pass_bound {cap span : Int} (hs : 0 < span) : ∀ (c acc : List S58) (l q s : Int), VB cap cap span l q s → asc s c → posC c → desc acc → posC acc → (∀ y ∈ acc, y.f0 ≤ s) →
    (∀ u, u ≤ s → span * sF (fun t => decide (u ≤ t)) acc + (l * span + q) ≤ cap * span + (s - u) * cap) → okA (2 * cap - (cap + span - 1) / span) (inS span) (passL cap span l q s c) acc
  | [], _, _, _, _, _, _, _, _, _, _, _ => trivial
  | x :: c, acc, l, q, s, hv, ha, hp, hd, hpa, hle, hI => by
    obtain ⟨a1, a2, a3⟩ := ha
    have hfT : fT s x.f0 = x.f0 := fT_aft a1
    have hw := fill_valid hv a2
    have p0 := hp x List.mem_cons_self
    have cap0 : 0 ≤ cap := by have := hv.1.1; omega
    have hpc : posC c := fun y hy => hp y (List.mem_cons_of_mem _ hy)
    -- what holds, refilled
    have hI2 : ∀ u, u ≤ x.f0 → span * sF (fun t => decide (u ≤ t)) acc + (fL cap cap span l q s x.f0 * span + fP cap cap span l q s x.f0) ≤ cap * span + (x.f0 - u) * cap := by
      intro u hu
      have hA : fL cap cap span l q s x.f0 * span + fP cap cap span l q s x.f0 = fA cap cap span l q s x.f0 := rfl
      have hle2 := fA_le hv a2
      rw [hA]
      by_cases g : u ≤ s
      · have h1 := hI u g
        have hE := fA_eq (t := x.f0) hv
        have e : (x.f0 - u) * cap = (s - u) * cap + (x.f0 - s) * cap := by rw [← Int.add_mul]; congr 1; omega
        have n1 := Int.mul_nonneg (by omega : 0 ≤ x.f0 - s) cap0
        rw [hE]
        split
        · omega
        · split <;> omega
      · have z : sF (fun t => decide (u ≤ t)) acc = 0 := sF_none fun y hy => by
          have := hle y hy
          rw [decide_eq_false_iff_not]
          omega
        have n1 := Int.mul_nonneg (by omega : 0 ≤ x.f0 - u) cap0
        rw [z, Int.mul_zero]
        omega
    have hle2 : ∀ y ∈ acc, y.f0 ≤ x.f0 := fun y hy => Int.le_trans (hle y hy) a1
    unfold passL
    by_cases g : x.f1 ≤ fL cap cap span l q s x.f0
    · rw [if_pos g]
      have hv2 := charge_valid hw p0 g
      rw [hfT] at hv2 ⊢
      have hd2 : desc (x :: acc) := desc_cons hd hle2
      have hpa2 : posC (x :: acc) := fun y hy => by
        rcases List.mem_cons.1 hy with e | hy
        · rw [e]; exact p0
        · exact hpa y hy
      have hle3 : ∀ y ∈ x :: acc, y.f0 ≤ x.f0 := fun y hy => by
        rcases List.mem_cons.1 hy with e | hy
        · rw [e]; exact Int.le_refl _
        · exact hle2 y hy
      have hI3 : ∀ u, u ≤ x.f0 → span * sF (fun t => decide (u ≤ t)) (x :: acc) + ((fL cap cap span l q s x.f0 - x.f1) * span + fP cap cap span l q s x.f0) ≤ cap * span + (x.f0 - u) * cap := by
        intro u hu
        have := hI2 u hu
        have e : sF (fun t => decide (u ≤ t)) (x :: acc) = x.f1 + sF (fun t => decide (u ≤ t)) acc := by
          show (if decide (u ≤ x.f0) = true then x.f1 else 0) + _ = _
          rw [if_pos (decide_eq_true hu)]
        rw [e, Int.mul_add, Int.sub_mul, Int.mul_comm span x.f1]
        omega
      refine ⟨?_, pass_bound hs c (x :: acc) _ _ _ hv2 a3 hpc hd2 hpa2 hle3 hI3⟩
      have h1 := hI3 (x.f0 - span + 1) (by omega)
      have e1 : sB (inS span x.f0) (x :: acc) = sF (inS span x.f0) (x :: acc) := sB_eq_sF (inS_up span x.f0) hd2 hle3
      have e2 : sF (inS span x.f0) (x :: acc) = sF (fun t => decide (x.f0 - span + 1 ≤ t)) (x :: acc) := by
        have : inS span x.f0 = fun t => decide (x.f0 - span + 1 ≤ t) := by
          funext t
          unfold inS
          rw [decide_eq_decide]
          omega
        rw [this]
      rw [sB_own hs] at e1
      rw [e1, e2]
      generalize sF (fun t => decide (x.f0 - span + 1 ≤ t)) (x :: acc) = W at h1
      have n2 := amt_le hv2
      have e3 : (x.f0 - (x.f0 - span + 1)) * cap = span * cap - cap := by
        rw [show x.f0 - (x.f0 - span + 1) = span - 1 by omega, Int.sub_mul, Int.one_mul]
      rw [e3] at h1
      have hdv := div_bd (n := cap + span - 1) hs
      generalize (cap + span - 1) / span = Q at hdv ⊢
      rcases Int.lt_or_le (2 * cap - Q) W with h | h
      · have h2 := Int.mul_le_mul_of_nonneg_left (by omega : 2 * cap - Q + 1 ≤ W) (by omega : 0 ≤ span)
        rw [Int.mul_add, Int.mul_sub, Int.mul_one, ← Int.mul_assoc, Int.mul_comm span 2, Int.mul_assoc, Int.mul_comm span Q] at h2
        rw [Int.mul_comm cap span] at h1
        omega
      · exact h
    · rw [if_neg g]
      rw [hfT] at hw ⊢
      exact pass_bound hs c acc _ _ _ hw a3 hpc hd hpa hle2 hI2
theorem okB_asc : ∀ {l : List S58} {t : Int}, 0 ≤ t → okB l t = true → asc t l
  | [], _, _, _ => trivial
  | x :: l, t, h0, h => by
    simp only [okB, Bool.and_eq_true, decide_eq_true_eq] at h
    exact ⟨h.1, ⟨by omega, h.2.1⟩, okB_asc (by omega) h.2.2.2.2⟩
theorem passes_loop (cap span : Int) (l : List S58) (hl : l.length ≤ 1000) (hp : posC l) : ∀ (d j k : Nat) (acc : List S58) (L q s : Int), j + d = l.length → d + 30 ≤ k → acc.length ≤ j → VB cap cap span L q s → (∀ x ∈ l.drop j, U64 x.f0) → spigotlaw38_passes.l0 k l acc (j : Int) cap cap span L q s = some (acc ++ passL cap span L q s (l.drop j), true) := by
  intro d
  induction d with
  | zero =>
    intro j k acc L q s hj hk ha hv hu
    obtain ⟨k, rfl⟩ : ∃ m, k = m + 1 := ⟨k - 1, by omega⟩
    simp only [spigotlaw38_passes.l0]
    rw [if_neg (by omega), List.drop_eq_nil_of_le (by omega)]
    simp [passL]
  | succ d ih =>
    intro j k acc L q s hj hk ha hv hu
    obtain ⟨k, rfl⟩ : ∃ m, k = m + 1 := ⟨k - 1, by omega⟩
    have hjl : j < l.length := by omega
    have hux : U64 l[j].f0 := hu _ (by rw [dropC hjl]; exact List.mem_cons_self)
    have hu' : ∀ x ∈ l.drop (j + 1), U64 x.f0 := fun x hx => hu x (by rw [dropC hjl]; exact List.mem_cons_of_mem _ hx)
    have hw := fill_valid hv hux
    have hc := hp l[j] (List.getElem_mem hjl)
    simp only [spigotlaw38_passes.l0]
    rw [if_pos (by omega), if_pos (by omega), rdC_at hjl, Refill_ok k (by omega) hv hux]
    simp only [Option.bind_some, ↓reduceIte]
    rw [dropC hjl, wj (by omega)]
    unfold passL
    by_cases c : l[j].f1 ≤ fL cap cap span L q s l[j].f0
    · rw [Charge_ok hw hc c, if_pos c]
      simp only [Option.bind_some, ↓reduceIte]
      rw [if_pos (by omega), ih (j + 1) k _ _ _ _ (by omega) (by omega) (by simp; omega) (charge_valid hw hc c) hu', List.append_assoc]
      rfl
    · rw [Charge_low hw hc (by omega), if_neg c]
      simp only [Option.bind_some, ↓reduceIte]
      rw [if_neg (by decide), ih (j + 1) k _ _ _ _ (by omega) (by omega) (by omega) hw hu']
theorem passes_ok (cap span : Int) (x : S58) (l : List S58) (hl : (x :: l).length ≤ 1000) (hw : okWin cap span) (hp : posC (x :: l)) (hu : ∀ y ∈ x :: l, U64 y.f0) (k : Nat) (hk : (x :: l).length + 30 ≤ k) : spigotlaw38_passes.f k cap cap span (x :: l) = some (passL cap span cap 0 x.f0 (x :: l), true) := by
  have hL : VL cap cap span := by obtain ⟨⟨h1, h2⟩, h3, h4⟩ := hw; exact ⟨h1, h2, by omega, by omega, h3, h4⟩
  unfold spigotlaw38_passes.f
  have e : rd_T58 (x :: l) 0 = x := rdC_at (l := x :: l) (j := 0) (by simp)
  rw [if_neg (by simp; omega), if_pos (by simp), e, Full_ok hL]
  simp only [Option.bind_some, ↓reduceIte]
  have h := passes_loop cap span (x :: l) hl hp (x :: l).length 0 k [] cap 0 x.f0 (by omega) (by omega) (by simp) (full_valid hL (hu x List.mem_cons_self)) (fun y hy => hu y hy)
  exact h
theorem passes_nil (cap span : Int) (k : Nat) : spigotlaw38_passes.f k cap cap span [] = some ([], true) := by
  unfold spigotlaw38_passes.f
  rw [if_pos (by simp)]
theorem full_fA {cap span s t : Int} (hw : okWin cap span) (hs : U64 s) : fA cap cap span cap 0 s t = cap * span := by
  have hL : VL cap cap span := by obtain ⟨⟨h1, h2⟩, h3, h4⟩ := hw; exact ⟨h1, h2, by omega, by omega, h3, h4⟩
  rw [fA_eq (full_valid hL hs)]
  split
  · omega
  · rename_i h
    have : 0 ≤ (t - s) * cap := Int.mul_nonneg (by omega) (by have := hw.1.1; omega)
    rw [if_neg (by omega)]
theorem ceil_le {cap span : Int} (hw : okWin cap span) : 0 ≤ (cap + span - 1) / span ∧ (cap + span - 1) / span ≤ cap := by
  obtain ⟨⟨h1, h2⟩, h3, h4⟩ := hw
  refine ⟨Int.ediv_nonneg (by omega) (by omega), ?_⟩
  have h5 : 0 ≤ (cap - 1) * (span - 1) := Int.mul_nonneg (by omega) (by omega)
  rw [Int.sub_mul, Int.mul_sub, Int.mul_sub] at h5
  have h6 : (cap + span - 1) / span < cap + 1 := Int.ediv_lt_of_lt_mul (by omega) (by rw [Int.add_mul]; omega)
  omega
/-- What a window admits passes the bucket as a whole. -/
theorem admitted_pass {cap span : Int} (hw : okWin cap span) {x : S58} {l : List S58} (hb : okB (x :: l) 0 = true) (ha : okA cap (inS span) (x :: l) []) : passL cap span cap 0 x.f0 (x :: l) = x :: l := by
  have hL : VL cap cap span := by obtain ⟨⟨h1, h2⟩, h3, h4⟩ := hw; exact ⟨h1, h2, by omega, by omega, h3, h4⟩
  have hp := okB_pos hb
  have has := okB_asc (Int.le_refl 0) hb
  have hx := has.2.1
  refine window_pass (by have := hw.2.1; omega) (x :: l) [] cap 0 x.f0 (full_valid hL hx) ⟨Int.le_refl _, hx, has.2.2⟩ hp (fun y hy => by cases hy) (fun y hy => by cases hy) ha fun t _ _ => ?_
  rw [full_fA hw hx]
  show cap * span - span * 0 ≤ _
  omega
/-- What passes the bucket is at most so much in any window. -/
theorem passed_most {cap span : Int} (hw : okWin cap span) {x : S58} {l : List S58} (hb : okB (x :: l) 0 = true) : mostL span (passL cap span cap 0 x.f0 (x :: l)) [] 0 ≤ 2 * cap - (cap + span - 1) / span := by
  have hL : VL cap cap span := by obtain ⟨⟨h1, h2⟩, h3, h4⟩ := hw; exact ⟨h1, h2, by omega, by omega, h3, h4⟩
  have hp := okB_pos hb
  have has := okB_asc (Int.le_refl 0) hb
  have hx := has.2.1
  have hs : 0 < span := by have := hw.2.1; omega
  have hc := ceil_le hw
  have h1 := hw.1.1
  rw [mostL_iff hs]
  refine ⟨by omega, pass_bound hs (x :: l) [] cap 0 x.f0 (full_valid hL hx) ⟨Int.le_refl _, hx, has.2.2⟩ hp trivial (fun y hy => by cases hy) (fun y hy => by cases hy) fun u hu => ?_⟩
  have : 0 ≤ (x.f0 - u) * cap := Int.mul_nonneg (by omega) (by omega)
  show span * 0 + (cap * span + 0) ≤ _
  omega
theorem WindowBucket_pure (a b : Int) (l : List S58) (_ : I64 a) (_ : I64 b) (_ : l.length ≤ maxLen) (hr : ∀ x ∈ l, U64 x.f0 ∧ I64 x.f1) : ∃ k, spigotlaw38_WindowBucket.f k a b l = some true := by
  refine ⟨202, ?_⟩
  have fin : spigotlaw38_WindowBucket.j0 202 l true true a b = some true := by simp only [spigotlaw38_WindowBucket.j0, ↓reduceIte]
  obtain ⟨g, eg, _⟩ := great38 l
  unfold spigotlaw38_WindowBucket.f
  rw [alive38 202 (by omega), eg]
  simp only [Option.bind_some]
  by_cases hg : g = true
  · rw [if_pos hg]
    exact fin
  · rw [if_neg hg, (wCheck a b).2]
    simp only [Option.bind_some]
    by_cases hw : okWin a b
    · rw [if_pos hw, if_pos rfl, rCharges l hr 202 (by omega)]
      simp only [Option.bind_some]
      by_cases hc : chOf l = 0
      · rw [if_pos hc]
        obtain ⟨h1, h2⟩ := (chOf_zero hr).1 hc
        have hs : 0 < b := by have := hw.2.1; omega
        have h0 : 0 ≤ a := by have := hw.1.1; omega
        obtain ⟨o, ho⟩ : ∃ o, o = adm a (inS b) l [] := ⟨_, rfl⟩
        have os : o.Sublist l := by rw [ho]; exact adm_sub _ _ _ _
        have ol := os.length_le
        have orr : ∀ x ∈ o, cR x := fun x hx => hr x (os.subset hx)
        have ob := okB_sub os h2
        have oa : okA a (inS b) o [] := by rw [ho]; exact adm_ok _ _ _ _
        have hlim : window_Limit.f a b = some (a, a, b, 0) := by
          unfold window_Limit.f
          rw [(wCheck a b).1, if_pos hw]
          rfl
        have hp1 : spigotlaw38_passes.f 201 a a b o = some (o, true) := by
          cases ho' : o with
          | nil => exact passes_nil a b 201
          | cons x t =>
            rw [ho'] at ol orr ob oa
            rw [passes_ok a b x t (by omega) hw (okB_pos ob) (fun y hy => (orr y hy).1) 201 (by omega), admitted_pass hw ob oa]
        have hc := ceil_le hw
        have hwr : wrap64 (wrap64 (2 * a) - wrap64 (Int.tdiv (wrap64 (wrap64 (a + b) - 1)) b)) = 2 * a - (a + b - 1) / b := by
          obtain ⟨⟨g1, g2⟩, g3, g4⟩ := hw
          rw [wrap64_id (x := 2 * a) (by omega) (by omega), wrap64_id (x := a + b) (by omega) (by omega), wrap64_id (x := a + b - 1) (by omega) (by omega), tdiv_nonneg_eq (by omega), wrap64_id (x := (a + b - 1) / b) (by omega) (by omega), wrap64_id (by omega) (by omega)]
        obtain ⟨p, hp, ps, pm⟩ : ∃ p, spigotlaw38_passes.f 201 a a b l = some (p, true) ∧ p.Sublist l ∧ mostL b p [] 0 ≤ 2 * a - (a + b - 1) / b := by
          cases hl' : l with
          | nil => exact ⟨[], passes_nil a b 201, List.Sublist.refl _, by show (0 : Int) ≤ _; omega⟩
          | cons x t =>
            rw [hl'] at h1 h2
            exact ⟨_, passes_ok a b x t (by omega) hw (okB_pos h2) (fun y hy => (hr y (by rw [hl']; exact hy)).1) 201 (by omega), passL_sub _ _ _ _ _ _, passed_most hw h2⟩
        have pl := ps.length_le
        have prr : ∀ x ∈ p, cR x := fun x hx => hr x (ps.subset hx)
        have pb := okB_sub ps h2
        show spigotlaw38_WindowBucket.j0 202 l true false a b = some true
        simp only [spigotlaw38_WindowBucket.j0]
        rw [if_neg (by decide), hlim, slide_ok hr hw h1 h2 201 (by omega), ← ho]
        simp only [Option.bind_some, ↓reduceIte]
        rw [hp1, hp]
        simp only [Option.bind_some, ↓reduceIte]
        rw [most_ok prr hw (by omega) pb 201 (by omega), same_self o (by omega) 201 (by omega)]
        simp only [Option.bind_some, ↓reduceIte]
        rw [if_neg (by omega), hwr, decide_eq_true pm]
      · rw [if_neg hc]
        exact fin
    · rw [if_neg hw, if_neg (by decide)]
      exact fin
end Go.Proofs.Ytjjmnafhaneflaa.X
