/- WindowAdmits, and what it needs. -/
import Derived.Test.YtjjmnafhaneflaaX0
import Derived.Test.YtjjmnafhaneflaaX4
import Derived.Test.YtjjmnafhaneflaaX5
import Derived.Test.YtjjmnafhaneflaaX6
import Derived.Test.YtjjmnafhaneflaaX7
import Derived.Test.YtjjmnafhaneflaaX9
import Derived.Test.YtjjmnafhaneflaaX10
import Derived.Test.YtjjmnafhaneflaaX11
import Derived.Test.YtjjmnafhaneflaaX13
import Derived.Test.YtjjmnafhaneflaaX14
import Derived.Test.YtjjmnafhaneflaaX18
import Derived.Test.YtjjmnafhaneflaaX19
import Derived.Test.YtjjmnafhaneflaaX20
import Derived.Test.YtjjmnafhaneflaaX21
import Derived.Test.YtjjmnafhaneflaaX22
import Derived.Test.YtjjmnafhaneflaaX23
import Derived.Test.YtjjmnafhaneflaaX24
import Derived.Test.YtjjmnafhaneflaaMath
namespace Go.Proofs.Ytjjmnafhaneflaa.X
open Go.RowKit Go.Proofs.YtjjmnafhaneflaaW.PrintWords Go.Proofs.YtjjmnafhaneflaaW.PrintLast Go.Proofs.YtjjmnafhaneflaaW.PrintMore
set_option linter.unusedVariables false
set_option linter.unusedSimpArgs false

theorem wj {j : Nat} (h : j < 9223372036854775807) : wrap64 ((j : Int) + 1) = ((j + 1 : Nat) : Int) := by unfold wrap64; omega
def sF (p : Int → Bool) : List S58 → Int
  | [] => 0
  | x :: r => (if p x.f0 = true then x.f1 else 0) + sF p r
theorem adm_len (cap : Int) (same : Int → Int → Bool) : ∀ (c acc : List S58), (adm cap same c acc).length ≤ c.length
  | [], _ => Nat.le_refl _
  | x :: c, acc => by
    unfold adm
    by_cases h : x.f1 + sB (same x.f0) acc ≤ cap
    · rw [if_pos h]
      have := adm_len cap same c (x :: acc)
      simp only [List.length_cons]
      omega
    · rw [if_neg h]
      have := adm_len cap same c acc
      simp only [List.length_cons]
      omega
/-- The newest first: no tick is greater than the one ahead of it. -/
def desc : List S58 → Prop
  | [] => True
  | [_] => True
  | x :: y :: r => y.f0 ≤ x.f0 ∧ desc (y :: r)
theorem desc_tail {x : S58} {r : List S58} (h : desc (x :: r)) : desc r := by
  cases r with
  | nil => trivial
  | cons y r => exact h.2
theorem desc_le : ∀ {r : List S58} {x : S58}, desc (x :: r) → ∀ y ∈ r, y.f0 ≤ x.f0
  | [], _, _ => fun y hy => by cases hy
  | z :: r, x, h => fun y hy => by
    rcases List.mem_cons.1 hy with e | hy
    · rw [e]
      exact h.1
    · exact Int.le_trans (desc_le h.2 y hy) h.1
theorem desc_cons {x : S58} : ∀ {r : List S58}, desc r → (∀ y ∈ r, y.f0 ≤ x.f0) → desc (x :: r)
  | [], _, _ => trivial
  | z :: r, h, g => ⟨g z List.mem_cons_self, h⟩
theorem sF_none {p : Int → Bool} : ∀ {r : List S58}, (∀ x ∈ r, p x.f0 = false) → sF p r = 0
  | [], _ => rfl
  | x :: r, h => by
    unfold sF
    rw [h x List.mem_cons_self, sF_none fun y hy => h y (List.mem_cons_of_mem _ hy)]
    rfl
/-- In a window that is an end of what came, both sums are the same. -/
theorem sB_eq_sF {p : Int → Bool} {T : Int} (hp : ∀ t u, t ≤ u → u ≤ T → p t = true → p u = true) : ∀ {r : List S58}, desc r → (∀ x ∈ r, x.f0 ≤ T) → sB p r = sF p r
  | [], _, _ => rfl
  | x :: r, hd, hT => by
    have ih := sB_eq_sF hp (r := r) (desc_tail hd) fun y hy => hT y (List.mem_cons_of_mem _ hy)
    unfold sB sF
    cases e : p x.f0 with
    | true => rw [if_pos rfl, if_pos rfl, ih]
    | false =>
      rw [if_neg (by decide), if_neg (by decide)]
      have : sF p r = 0 := by
        refine sF_none fun y hy => ?_
        cases g : p y.f0 with
        | false => rfl
        | true =>
          have := hp y.f0 x.f0 (desc_le hd y hy) (hT x List.mem_cons_self) g
          rw [e] at this
          cases this
      rw [this]
      rfl
theorem sF_append (p : Int → Bool) : ∀ (a b : List S58), sF p (a ++ b) = sF p a + sF p b
  | [], b => by
    show sF p b = 0 + sF p b
    omega
  | x :: a, b => by
    show (if p x.f0 = true then x.f1 else 0) + sF p (a ++ b) = (if p x.f0 = true then x.f1 else 0) + sF p a + sF p b
    rw [sF_append p a b]
    omega
theorem sF_reverse (p : Int → Bool) : ∀ (a : List S58), sF p a.reverse = sF p a
  | [] => rfl
  | x :: a => by
    rw [List.reverse_cons, sF_append, sF_reverse p a]
    show sF p a + ((if p x.f0 = true then x.f1 else 0) + 0) = (if p x.f0 = true then x.f1 else 0) + sF p a
    omega
/-! #### the windows -/
theorem bg_spec {span t : Int} (hs : 0 < span) : bg span t = t / span * span ∧ bg span t ≤ t ∧ t < bg span t + span := by
  have h := div_rest (n := t) hs
  unfold bg
  omega
theorem bg_mono {span t u : Int} (hs : 0 < span) (h : t ≤ u) : bg span t ≤ bg span u := by
  rw [(bg_spec hs).1, (bg_spec (t := u) hs).1]
  exact Int.mul_le_mul_of_nonneg_right (div_mono hs h) (by omega)
theorem inS_up (span x : Int) : ∀ t u, t ≤ u → u ≤ x → inS span x t = true → inS span x u = true := by
  intro t u h _ g
  unfold inS at g ⊢
  rw [decide_eq_true_iff] at g ⊢
  omega
theorem inF_up {span : Int} (hs : 0 < span) (x : Int) : ∀ t u, t ≤ u → u ≤ x → inF span x t = true → inF span x u = true := by
  intro t u h h2 g
  unfold inF at g ⊢
  rw [decide_eq_true_iff] at g ⊢
  have := bg_mono hs h
  have := bg_mono hs h2
  omega
theorem desc_suffix : ∀ {r q : List S58}, desc r → q <:+ r → desc q
  | [], q, _, h => by
    rw [List.suffix_nil.1 h]
    trivial
  | x :: r, q, hd, h => by
    rcases List.suffix_cons_iff.1 h with g | g
    · rw [g]
      exact hd
    · exact desc_suffix (desc_tail hd) g
def cR (x : S58) : Prop := U64 x.f0 ∧ I64 x.f1
theorem rdC_at {l : List S58} {j : Nat} (h : j < l.length) : rd_T58 l (j : Int) = l[j] := by
  unfold rd_T58
  rw [List.getD_eq_getElem?_getD, Int.toNat_natCast, List.getElem?_eq_getElem h]
  rfl
theorem dropC {l : List S58} {j : Nat} (h : j < l.length) : l.drop j = l[j] :: l.drop (j + 1) := List.drop_eq_getElem_cons h
abbrev okWin (a b : Int) : Prop := (1 ≤ a ∧ a ≤ 1000000000) ∧ 1 ≤ b ∧ b ≤ 1000000000
theorem wCheck (a b : Int) : window_Check.f a b = some (if okWin a b then 0 else 8) ∧ spigotref38_Check.f a b = some (if okWin a b then 0 else 8) := by
  have h : window_Check.f a b = some (if okWin a b then 0 else 8) := by
    unfold window_Check.f
    by_cases h1 : a < 1
    · rw [if_pos h1, if_neg (by unfold okWin; omega)]
    · rw [if_neg h1]
      by_cases h2 : a > 1000000000
      · rw [if_pos h2, if_neg (by unfold okWin; omega)]
      · rw [if_neg h2]
        by_cases h3 : b < 1
        · rw [if_pos h3, if_neg (by unfold okWin; omega)]
        · rw [if_neg h3]
          by_cases h4 : b > 1000000000
          · rw [if_pos h4, if_neg (by unfold okWin; omega)]
          · rw [if_neg h4, if_pos (by unfold okWin; omega)]
  exact ⟨h, h⟩
/-! #### charges -/
def badC (x : S58) : Bool := decide (x.f1 < 0) || decide (x.f1 > 1000000000)
def okU : Int → List S58 → Bool
  | _, [] => true
  | t, x :: l => decide (t ≤ x.f0) && okU x.f0 l
def chOf (l : List S58) : Int := if 60 < l.length then 4 else if l.any badC = true then 8 else if okU 0 l = true then 0 else 32
theorem okB_eq : ∀ (l : List S58) (t : Int), (∀ x ∈ l, cR x) → okB l t = (okU t l && !(l.any badC))
  | [], _, _ => rfl
  | x :: l, t, h => by
    have h1 := h x List.mem_cons_self
    have ih := okB_eq l x.f0 fun y hy => h y (List.mem_cons_of_mem _ hy)
    obtain ⟨⟨u0, u1⟩, _⟩ := h1
    unfold okB okU
    rw [ih, List.any_cons, decide_eq_true u1, Bool.true_and]
    unfold badC
    by_cases a : t ≤ x.f0
    · by_cases b : 0 ≤ x.f1
      · by_cases c : x.f1 ≤ 1000000000
        · rw [decide_eq_true a, decide_eq_true b, decide_eq_true c, decide_eq_false (show ¬ x.f1 < 0 by omega), decide_eq_false (show ¬ x.f1 > 1000000000 by omega)]
          simp
        · rw [decide_eq_false c, decide_eq_true (show x.f1 > 1000000000 by omega)]
          simp
      · rw [decide_eq_false b, decide_eq_true (show x.f1 < 0 by omega)]
        simp
    · rw [decide_eq_false a]
      simp
theorem chOf_zero {l : List S58} (h : ∀ x ∈ l, cR x) : chOf l = 0 ↔ l.length ≤ 60 ∧ okB l 0 = true := by
  rw [okB_eq l 0 h, Bool.and_eq_true, Bool.not_eq_true']
  unfold chOf
  by_cases a : 60 < l.length
  · rw [if_pos a]
    exact ⟨fun h => (by cases h), fun h => by omega⟩
  · rw [if_neg a]
    by_cases b : l.any badC = true
    · rw [if_pos b, b]
      exact ⟨fun h => (by cases h), fun h => by cases h.2.2⟩
    · rw [if_neg b]
      by_cases c : okU 0 l = true
      · rw [if_pos c]
        exact ⟨fun _ => ⟨by omega, c, Bool.eq_false_iff.2 b⟩, fun _ => rfl⟩
      · rw [if_neg c]
        exact ⟨fun h => (by cases h), fun h => absurd h.2.1 c⟩
theorem okU_of {x : S58} {l : List S58} (h : cR x) : okU 0 (x :: l) = okU x.f0 l := by
  show (decide (0 ≤ x.f0) && _) = _
  rw [decide_eq_true h.1.1, Bool.true_and]
theorem find_ok (l : List S58) (hl : l.length ≤ 1000) : ∀ (d j k : Nat), j + d = l.length → d + 1 ≤ k → ∃ i, slices_IndexFunc_api_Charge_c40.l0 k l (l.length : Int) (j : Int) = some i ∧ decide (i ≥ 0) = (l.drop j).any badC := by
  intro d
  induction d with
  | zero =>
    intro j k hj hk
    obtain ⟨k, rfl⟩ : ∃ m, k = m + 1 := ⟨k - 1, by omega⟩
    simp only [slices_IndexFunc_api_Charge_c40.l0]
    rw [if_neg (by omega), List.drop_eq_nil_of_le (by omega)]
    exact ⟨_, rfl, rfl⟩
  | succ d ih =>
    intro j k hj hk
    obtain ⟨k, rfl⟩ : ∃ m, k = m + 1 := ⟨k - 1, by omega⟩
    have hjl : j < l.length := by omega
    simp only [slices_IndexFunc_api_Charge_c40.l0]
    rw [if_pos (by omega), if_pos (by omega), if_pos (by omega), rdC_at hjl, dropC hjl, List.any_cons, wj (by omega)]
    have e : window_Charges_1.f l[j].f0 l[j].f1 = some (badC l[j]) := by
      unfold window_Charges_1.f badC
      by_cases a : l[j].f1 < 0
      · rw [if_pos a, decide_eq_true a, Bool.true_or]
      · rw [if_neg a, decide_eq_false a, Bool.false_or]
    rw [e]
    simp only [Option.bind_some]
    by_cases c : badC l[j] = true
    · rw [if_pos c, c, Bool.true_or]
      exact ⟨_, rfl, decide_eq_true (by omega)⟩
    · rw [if_neg c, Bool.eq_false_iff.2 c, Bool.false_or]
      exact ih (j + 1) k (by omega) (by omega)
theorem has_bad (l : List S58) (hl : l.length ≤ 1000) (a : Int) (k : Nat) (hk : l.length + 1 ≤ k) : slices_ContainsFunc_api_Charge_c40.f k l a = some (l.any badC) := by
  obtain ⟨i, e1, e2⟩ := find_ok l hl l.length 0 k (by omega) hk
  unfold slices_ContainsFunc_api_Charge_c40.f slices_IndexFunc_api_Charge_c40.f
  have e1' : slices_IndexFunc_api_Charge_c40.l0 k l (l.length : Int) 0 = some i := e1
  rw [e1']
  simp only [Option.bind_some]
  rw [e2]
  rfl
theorem sorted_w (l : List S58) (hl : l.length ≤ 1000) : ∀ (d j k : Nat), j + 1 + d = l.length → d + 1 ≤ k → ∀ (h : j < l.length), window_Charges.l0 k l (l.length : Int) ((j + 1 : Nat) : Int) = some (if okU l[j].f0 (l.drop (j + 1)) = true then 0 else 32) := by
  intro d
  induction d with
  | zero =>
    intro j k hj hk h
    obtain ⟨k, rfl⟩ : ∃ m, k = m + 1 := ⟨k - 1, by omega⟩
    simp only [window_Charges.l0]
    rw [if_neg (by omega), List.drop_eq_nil_of_le (by omega)]
    rfl
  | succ d ih =>
    intro j k hj hk h
    obtain ⟨k, rfl⟩ : ∃ m, k = m + 1 := ⟨k - 1, by omega⟩
    have hjl : j + 1 < l.length := by omega
    have e1 : wrap64 (((j + 1 : Nat) : Int) - 1) = (j : Int) := by unfold wrap64; omega
    simp only [window_Charges.l0]
    rw [if_pos (by omega), if_pos (by omega), if_pos (by omega), if_pos (by omega), e1, if_pos (by omega), if_pos (by omega), rdC_at hjl, rdC_at h, wj (by omega), dropC hjl]
    unfold okU
    by_cases c : l[j + 1].f0 < l[j].f0
    · rw [if_pos c, decide_eq_false (by omega), Bool.false_and, if_neg (by decide)]
    · rw [if_neg c, decide_eq_true (by omega), Bool.true_and]
      exact ih (j + 1) k (by omega) (by omega) hjl
theorem sorted_r (l : List S58) (hl : l.length ≤ 1000) : ∀ (d j k : Nat), j + 1 + d = l.length → d + 1 ≤ k → ∀ (h : j < l.length), spigotref38_Charges.l1 k l ((j + 1 : Nat) : Int) = some (if okU l[j].f0 (l.drop (j + 1)) = true then 0 else 32) := by
  intro d
  induction d with
  | zero =>
    intro j k hj hk h
    obtain ⟨k, rfl⟩ : ∃ m, k = m + 1 := ⟨k - 1, by omega⟩
    simp only [spigotref38_Charges.l1]
    rw [if_neg (by omega), List.drop_eq_nil_of_le (by omega)]
    rfl
  | succ d ih =>
    intro j k hj hk h
    obtain ⟨k, rfl⟩ : ∃ m, k = m + 1 := ⟨k - 1, by omega⟩
    have hjl : j + 1 < l.length := by omega
    have e1 : wrap64 (((j + 1 : Nat) : Int) - 1) = (j : Int) := by unfold wrap64; omega
    simp only [spigotref38_Charges.l1]
    rw [if_pos (by omega), if_pos (by omega), e1, if_pos (by omega), if_pos (by omega), rdC_at hjl, rdC_at h, wj (by omega), dropC hjl]
    unfold okU
    by_cases c : l[j + 1].f0 < l[j].f0
    · rw [if_pos c, decide_eq_false (by omega), Bool.false_and, if_neg (by decide)]
    · rw [if_neg c, decide_eq_true (by omega), Bool.true_and]
      exact ih (j + 1) k (by omega) (by omega) hjl
theorem wCharges (l : List S58) (hr : ∀ x ∈ l, cR x) (k : Nat) (hk : 70 ≤ k) : window_Charges.f k l = some (chOf l) := by
  unfold window_Charges.f chOf
  by_cases a : 60 < l.length
  · rw [if_pos (by omega), if_pos a]
  · rw [if_neg (by omega), if_neg a, has_bad l (by omega) 0 k (by omega)]
    simp only [Option.bind_some]
    by_cases b : l.any badC = true
    · rw [if_pos b, if_pos b]
    · rw [if_neg b, if_neg b]
      cases l with
      | nil =>
        obtain ⟨k, rfl⟩ : ∃ m, k = m + 1 := ⟨k - 1, by omega⟩
        simp only [window_Charges.l0]
        rw [if_neg (by simp)]
        rfl
      | cons x l =>
        obtain ⟨k, rfl⟩ : ∃ m, k = m + 1 := ⟨k - 1, by omega⟩
        rw [okU_of (hr x List.mem_cons_self)]
        have h := sorted_w (x :: l) (by omega) l.length 0 k (by simp; omega) (by simp at a; omega) (by simp)
        simp only [window_Charges.l0]
        rw [if_pos (by simp), if_neg (by omega), show wrap64 (0 + 1) = ((0 + 1 : Nat) : Int) by unfold wrap64; omega]
        exact h
theorem rcost_ok (l : List S58) (hl : l.length ≤ 1000) : ∀ (d j k : Nat), j + d = l.length → d + 1 ≤ k → ((l.drop j).any badC = true → spigotref38_Charges.l0 k l (j : Int) = some 8) ∧ ((l.drop j).any badC = false → spigotref38_Charges.l0 k l (j : Int) = spigotref38_Charges.l1 (k - d - 1) l 1) := by
  intro d
  induction d with
  | zero =>
    intro j k hj hk
    obtain ⟨k, rfl⟩ : ∃ m, k = m + 1 := ⟨k - 1, by omega⟩
    simp only [spigotref38_Charges.l0]
    rw [if_neg (by omega), List.drop_eq_nil_of_le (by omega)]
    exact ⟨fun h => (by cases h), fun _ => rfl⟩
  | succ d ih =>
    intro j k hj hk
    obtain ⟨k, rfl⟩ : ∃ m, k = m + 1 := ⟨k - 1, by omega⟩
    have hjl : j < l.length := by omega
    have i1 := ih (j + 1) k (by omega) (by omega)
    have ek : k + 1 - (d + 1) - 1 = k - d - 1 := by omega
    simp only [spigotref38_Charges.l0]
    rw [if_pos (by omega), if_pos (by omega), rdC_at hjl, dropC hjl, List.any_cons, wj (by omega), ek]
    unfold badC
    by_cases a : l[j].f1 < 0
    · rw [if_pos a, decide_eq_true a, Bool.true_or, Bool.true_or]
      exact ⟨fun _ => rfl, fun h => by cases h⟩
    · rw [if_neg a, decide_eq_false a, Bool.false_or]
      by_cases b : l[j].f1 > 1000000000
      · rw [if_pos b, decide_eq_true b, Bool.true_or]
        exact ⟨fun _ => rfl, fun h => by cases h⟩
      · rw [if_neg b, decide_eq_false b, Bool.false_or]
        exact i1
theorem rCharges (l : List S58) (hr : ∀ x ∈ l, cR x) (k : Nat) (hk : 130 ≤ k) : spigotref38_Charges.f k l = some (chOf l) := by
  unfold spigotref38_Charges.f chOf
  by_cases a : 60 < l.length
  · rw [if_pos (by omega), if_pos a]
  · rw [if_neg (by omega), if_neg a]
    obtain ⟨r1, r2⟩ := rcost_ok l (by omega) l.length 0 k (by omega) (by omega)
    rw [List.drop_zero] at r1 r2
    by_cases b : l.any badC = true
    · rw [if_pos b]
      exact r1 b
    · rw [if_neg b]
      have h := r2 (Bool.eq_false_iff.2 b)
      refine h.trans ?_
      obtain ⟨m, hm⟩ : ∃ m, k - l.length - 1 = m + 1 := ⟨k - l.length - 2, by omega⟩
      cases l with
      | nil =>
        rw [hm]
        simp only [spigotref38_Charges.l1]
        rw [if_neg (by simp)]
        rfl
      | cons x l =>
        rw [okU_of (hr x List.mem_cons_self)]
        exact sorted_r (x :: l) (by omega) l.length 0 _ (by simp; omega) (by simp at a ⊢; omega) (by simp)
theorem wBoth (a b : Int) (l : List S58) (hr : ∀ x ∈ l, cR x) (k : Nat) (hk : 70 ≤ k) : window_both.f k a b l = some (if okWin a b then chOf l else 8) := by
  unfold window_both.f
  rw [(wCheck a b).1]
  simp only [Option.bind_some]
  by_cases h : okWin a b
  · rw [if_pos h, if_pos rfl, wCharges l hr k hk, if_pos h]
    rfl
  · rw [if_neg h, if_neg (by decide), if_neg h]
/-! #### same lists -/
theorem same_ok (x y : List S58) (hl : x.length ≤ 1000) (k : Nat) (hk : x.length + 1 ≤ k) : ∃ b, spigotref38_Same.f k x y = some b ∧ (b = true ↔ x = y) := by
  unfold spigotref38_Same.f
  by_cases e : (x.length : Int) = (y.length : Int)
  · rw [if_pos e]
    have el : x.length = y.length := by omega
    have key : ∀ (d j k : Nat), j + d = x.length → d + 1 ≤ k → ∃ b, spigotref38_Same.l0 k x y (j : Int) = some b ∧ (b = true ↔ x.drop j = y.drop j) := by
      intro d
      induction d with
      | zero =>
        intro j k hj hk
        obtain ⟨k, rfl⟩ : ∃ m, k = m + 1 := ⟨k - 1, by omega⟩
        simp only [spigotref38_Same.l0]
        rw [if_neg (by omega), List.drop_eq_nil_of_le (by omega), List.drop_eq_nil_of_le (by omega)]
        exact ⟨true, rfl, fun _ => rfl, fun _ => rfl⟩
      | succ d ih =>
        intro j k hj hk
        obtain ⟨k, rfl⟩ : ∃ m, k = m + 1 := ⟨k - 1, by omega⟩
        have h1 : j < x.length := by omega
        have h2 : j < y.length := by omega
        simp only [spigotref38_Same.l0]
        rw [if_pos (by omega), if_pos (by omega), if_pos (by omega), rdC_at h1, rdC_at h2, dropC h1, dropC h2, wj (by omega)]
        by_cases c : x[j] = y[j]
        · rw [if_neg (by rw [c]; simp)]
          obtain ⟨b, e1, e2⟩ := ih (j + 1) k (by omega) (by omega)
          refine ⟨b, e1, ?_⟩
          rw [e2, c]
          exact ⟨fun h => by rw [h], fun h => (List.cons.inj h).2⟩
        · have hc : (!(x[j].f0 == y[j].f0) || !(x[j].f1 == y[j].f1)) = true := by
            rw [Bool.or_eq_true, Bool.not_eq_true', Bool.not_eq_true', beq_eq_false_iff_ne, beq_eq_false_iff_ne]
            by_cases c0 : x[j].f0 = y[j].f0
            · refine Or.inr fun c1 => c ?_
              cases hx : x[j]
              cases hy : y[j]
              rw [hx, hy] at c0 c1
              simp only at c0 c1
              rw [c0, c1]
            · exact Or.inl c0
          rw [if_pos hc]
          exact ⟨false, rfl, fun h => (by cases h), fun h => absurd (List.cons.inj h).1 c⟩
    obtain ⟨b, e1, e2⟩ := key x.length 0 k (by omega) hk
    rw [List.drop_zero, List.drop_zero] at e2
    exact ⟨b, e1, e2⟩
  · rw [if_neg e]
    exact ⟨false, rfl, fun h => (by cases h), fun h => absurd (by rw [h]) e⟩
theorem same_self (x : List S58) (hl : x.length ≤ 1000) (k : Nat) (hk : x.length + 1 ≤ k) : spigotref38_Same.f k x x = some true := by
  obtain ⟨b, e1, e2⟩ := same_ok x x hl k hk
  rw [e1, e2.2 rfl]
/-! #### parts of what is sorted -/
theorem okB_le : ∀ {l : List S58} {t u : Int}, t ≤ u → okB l u = true → okB l t = true
  | [], _, _, _, _ => rfl
  | x :: l, t, u, h, g => by
    simp only [okB, Bool.and_eq_true, decide_eq_true_eq] at g ⊢
    exact ⟨by omega, g.2⟩
theorem okB_sub {o l : List S58} (h : o.Sublist l) : ∀ {t : Int}, okB l t = true → okB o t = true := by
  induction h with
  | slnil => exact fun h => h
  | cons x _ ih =>
    intro t g
    simp only [okB, Bool.and_eq_true, decide_eq_true_eq] at g
    exact ih (okB_le g.1 g.2.2.2.2)
  | cons_cons x _ ih =>
    intro t g
    simp only [okB, Bool.and_eq_true, decide_eq_true_eq] at g ⊢
    exact ⟨g.1, g.2.1, g.2.2.1, g.2.2.2.1, ih g.2.2.2.2⟩
theorem okB_desc : ∀ {l : List S58} {t : Int} {r : List S58}, okB l t = true → desc r → (∀ y ∈ r, y.f0 ≤ t) → desc (l.reverse ++ r)
  | [], _, _, _, hr, _ => hr
  | x :: l, t, r, h, hr, hy => by
    simp only [okB, Bool.and_eq_true, decide_eq_true_eq] at h
    rw [List.reverse_cons, List.append_assoc, List.singleton_append]
    refine okB_desc (t := x.f0) h.2.2.2.2 (desc_cons hr fun y h' => Int.le_trans (hy y h') h.1) fun y h' => ?_
    rcases List.mem_cons.1 h' with e | e
    · rw [e]; exact Int.le_refl _
    · exact Int.le_trans (hy y e) h.1
theorem okB_desc' {l : List S58} {t : Int} (h : okB l t = true) : desc l.reverse := by
  have := okB_desc (r := []) h trivial (fun y hy => by cases hy)
  rwa [List.append_nil] at this
theorem okW_of {a b : Int} {l : List S58} (hw : okWin a b) (hl : l.length ≤ 60) (h : okB l 0 = true) : okW a b l = true := by
  unfold okW
  obtain ⟨⟨h1, h2⟩, h3, h4⟩ := hw
  rw [decide_eq_true h1, decide_eq_true h2, decide_eq_true h3, decide_eq_true h4, decide_eq_true (show l.length ≤ 1000 by omega), h]
  rfl
theorem great38 (l : List S58) : ∃ b, spigotref38_Great.f l = some b ∧ (b = false → l.length ≤ 100) := by
  unfold spigotref38_Great.f
  by_cases a : (l.length : Int) > 25
  · rw [if_pos a]
    by_cases b : (l.length : Int) ≤ 60
    · rw [if_pos b]
      exact ⟨true, rfl, fun h => by cases h⟩
    · rw [if_neg b]
      exact ⟨_, rfl, fun h => by have := of_decide_eq_false h; omega⟩
  · rw [if_neg a]
    exact ⟨_, rfl, fun h => by have := of_decide_eq_false h; omega⟩
theorem begin_ok {a b x : Int} (hw : okWin a b) (hx : U64 x) : window_begin.f a b x = some (bg b x) ∧ spigotref38_Begin.f a b x = some (bg b x) := by
  obtain ⟨_, h1, h2⟩ := hw
  obtain ⟨x0, x1⟩ := hx
  obtain ⟨b1, b2, b3⟩ := bg_spec (span := b) (t := x) (by omega)
  have d0 : 0 ≤ x / b := Int.ediv_nonneg x0 (by omega)
  have d1 : x / b ≤ x := Int.ediv_le_self b x0
  have d2 : 0 ≤ x / b * b := Int.mul_nonneg d0 (by omega)
  have ew : IntKind.u64.wrap b = b := wrap_id ⟨by omega, by omega⟩
  constructor
  · unfold window_begin.f
    rw [ew, if_neg (by omega), tmod_nonneg_eq x0]
    have : bg b x = x - x % b := rfl
    rw [← this, wrap_id ⟨by omega, by omega⟩]
  · unfold spigotref38_Begin.f
    rw [ew, if_neg (by omega), tdiv_nonneg_eq x0, wrap_id (x := x / b) ⟨d0, by omega⟩, wrap_id ⟨by omega, by omega⟩, b1]
theorem rBoth (a b : Int) (l : List S58) (hr : ∀ x ∈ l, cR x) (k : Nat) (hk : 130 ≤ k) : spigotref38_both.f k a b l = some (if okWin a b then chOf l else 8) := by
  unfold spigotref38_both.f
  rw [(wCheck a b).2]
  simp only [Option.bind_some]
  by_cases h : okWin a b
  · rw [if_pos h, if_pos rfl, rCharges l hr k hk, if_pos h]
    rfl
  · rw [if_neg h, if_neg (by decide), if_neg h]
theorem within_ok {a b x y : Int} (hw : okWin a b) (hx : U64 x) (hy : U64 y) (h : y ≤ x) : spigotref38_within.f a b y x = some (inS b x y) := by
  unfold spigotref38_within.f
  obtain ⟨x0, x1⟩ := hx
  obtain ⟨y0, y1⟩ := hy
  obtain ⟨_, h1, h2⟩ := hw
  rw [wrap_id (x := x - y) ⟨by omega, by omega⟩, wrap_id (x := b) ⟨by omega, by omega⟩]
  rfl
theorem acc_desc {l acc t : List S58} {x : S58} (h : okB l 0 = true) (hs : (acc ++ x :: t).Sublist l) : desc (x :: acc.reverse) := by
  have h1 := okB_desc' (okB_sub hs h)
  have : (acc ++ x :: t).reverse = t.reverse ++ (x :: acc.reverse) := by simp
  rw [this] at h1
  exact desc_suffix h1 (List.suffix_append _ _)
theorem rfx_l1 {a b : Int} (hw : okWin a b) (l acc : List S58) (i : Nat) (hi : i < l.length) (hl : l.length ≤ 1000) (ha : acc.length ≤ 1000) (hx : U64 l[i].f0) (hu : ∀ y ∈ acc, U64 y.f0 ∧ y.f0 ≤ l[i].f0) (hc : ∀ y ∈ acc, 0 ≤ y.f1 ∧ y.f1 ≤ 1000000000) : ∀ (d j k : Nat) (s : Int), j + d = acc.length → d + 1 ≤ k → 0 ≤ s → s ≤ 1000000000 * ((j : Int) + 1) →
    spigotref38_Fixed.l1 k l acc (i : Int) s (j : Int) a b = if s + sF (inF b l[i].f0) (acc.drop j) ≤ a then spigotref38_Fixed.l0 (k - d - 1) l (acc ++ [l[i]]) ((i + 1 : Nat) : Int) a b else spigotref38_Fixed.l0 (k - d - 1) l acc ((i + 1 : Nat) : Int) a b := by
  intro d
  induction d with
  | zero =>
    intro j k s hj hk h0 h1
    obtain ⟨k, rfl⟩ : ∃ m, k = m + 1 := ⟨k - 1, by omega⟩
    have e : s + sF (inF b l[i].f0) (acc.drop j) = s := by
      rw [List.drop_eq_nil_of_le (by omega)]
      show s + 0 = s
      omega
    have ek : k + 1 - 0 - 1 = k := by omega
    simp only [spigotref38_Fixed.l1]
    rw [if_neg (by omega), e, ek]
    by_cases c : s ≤ a
    · rw [if_pos c, if_pos c, if_pos (by omega), if_pos (by omega), if_pos (by omega), rdC_at hi, wj (by omega)]
    · rw [if_neg c, if_neg c, wj (by omega)]
  | succ d ih =>
    intro j k s hj hk h0 h1
    obtain ⟨k, rfl⟩ : ∃ m, k = m + 1 := ⟨k - 1, by omega⟩
    have hjl : j < acc.length := by omega
    obtain ⟨u1, u2⟩ := hu _ (List.getElem_mem hjl)
    obtain ⟨c1, c2⟩ := hc _ (List.getElem_mem hjl)
    have ek : k + 1 - (d + 1) - 1 = k - d - 1 := by omega
    have ew : wrap64 (s + acc[j].f1) = s + acc[j].f1 := by unfold wrap64; omega
    have es : s + sF (inF b l[i].f0) (acc.drop j) = (if inF b l[i].f0 acc[j].f0 = true then s + acc[j].f1 else s) + sF (inF b l[i].f0) (acc.drop (j + 1)) := by
      rw [dropC hjl]
      show s + ((if inF b l[i].f0 acc[j].f0 = true then acc[j].f1 else 0) + _) = _
      split <;> omega
    simp only [spigotref38_Fixed.l1]
    rw [ek, es]
    rw [if_pos (by omega), if_pos (by omega), rdC_at hjl, rdC_at hi, (begin_ok hw u1).2, (begin_ok hw hx).2, wj (by omega), ew]
    simp only [Option.bind_some]
    rw [if_pos (by omega), if_pos (by omega)]
    by_cases c : bg b acc[j].f0 = bg b l[i].f0
    · have : inF b l[i].f0 acc[j].f0 = true := decide_eq_true c.symm
      rw [if_pos c, if_pos this]
      exact ih (j + 1) k _ (by omega) (by omega) (by omega) (by omega)
    · have : ¬ inF b l[i].f0 acc[j].f0 = true := fun h => c (of_decide_eq_true h).symm
      rw [if_neg c, if_neg this]
      exact ih (j + 1) k _ (by omega) (by omega) (by omega) (by omega)
theorem rfx_l0 {a b : Int} (hw : okWin a b) (l : List S58) (hl : l.length ≤ 60) (hr : ∀ x ∈ l, cR x) (hb : okB l 0 = true) : ∀ (d i k : Nat) (acc : List S58), i + d = l.length → d * 62 + 70 ≤ k → (acc ++ l.drop i).Sublist l →
    spigotref38_Fixed.l0 k l acc (i : Int) a b = some (acc ++ adm a (inF b) (l.drop i) acc.reverse, 0) := by
  have hs : 0 < b := by have := hw.2.1; omega
  intro d
  induction d with
  | zero =>
    intro i k acc hj hk hsub
    obtain ⟨k, rfl⟩ : ∃ m, k = m + 1 := ⟨k - 1, by omega⟩
    simp only [spigotref38_Fixed.l0]
    rw [if_neg (by omega), List.drop_eq_nil_of_le (by omega)]
    simp [adm]
  | succ d ih =>
    intro i k acc hj hk hsub
    obtain ⟨k, rfl⟩ : ∃ m, k = m + 1 := ⟨k - 1, by omega⟩
    have hil : i < l.length := by omega
    rw [dropC hil] at hsub ⊢
    have hd := acc_desc hb hsub
    have hal : acc.length ≤ 60 := by
      have := hsub.length_le
      simp at this
      omega
    have hm : ∀ y ∈ acc, y ∈ l := fun y hy => hsub.subset (List.mem_append.2 (Or.inl hy))
    have hx := hr _ (List.getElem_mem hil)
    have hle : ∀ y ∈ acc, y.f0 ≤ l[i].f0 := fun y hy => desc_le hd y (List.mem_reverse.2 hy)
    have hcx := ((okB_spec hb).1 _ (List.getElem_mem hil)).2.2
    have e := rfx_l1 hw l acc i hil (by omega) (by omega) hx.1 (fun y hy => ⟨(hr y (hm y hy)).1, hle y hy⟩) (fun y hy => ((okB_spec hb).1 y (hm y hy)).2.2) acc.length 0 k l[i].f1 (by omega) (by omega) hcx.1 (by omega)
    rw [List.drop_zero, ← sF_reverse, ← sB_eq_sF (inF_up hs l[i].f0) (desc_tail hd) (fun y hy => hle y (List.mem_reverse.1 hy))] at e
    have s1 : ((acc ++ [l[i]]) ++ l.drop (i + 1)).Sublist l := by rw [List.append_assoc]; exact hsub
    have s2 : (acc ++ l.drop (i + 1)).Sublist l := ((List.sublist_cons_self _ _).append_left acc).trans hsub
    simp only [spigotref38_Fixed.l0]
    rw [if_pos (by omega), if_pos (by omega), rdC_at hil]
    refine e.trans ?_
    unfold adm
    by_cases c : l[i].f1 + sB (inF b l[i].f0) acc.reverse ≤ a
    · rw [if_pos c, if_pos c, ih (i + 1) _ _ (by omega) (by omega) s1, List.reverse_append, List.reverse_singleton, List.singleton_append, List.append_assoc, List.singleton_append]
    · rw [if_neg c, if_neg c, ih (i + 1) _ _ (by omega) (by omega) s2]
theorem rfx_ok {a b : Int} {l : List S58} (hr : ∀ x ∈ l, cR x) (k : Nat) (hk : 5000 ≤ k) : spigotref38_Fixed.f k a b l = window_Fixed.f k a b l := by
  unfold spigotref38_Fixed.f window_Fixed.f
  rw [rBoth a b l hr k (by omega), wBoth a b l hr k (by omega)]
  simp only [Option.bind_some]
  by_cases hw : okWin a b
  · rw [if_pos hw]
    by_cases c : chOf l = 0
    · obtain ⟨h1, h2⟩ := (chOf_zero hr).1 c
      rw [if_pos c, if_pos c, if_pos (okW_of hw h1 h2)]
      exact rfx_l0 hw l h1 hr h2 l.length 0 k [] (by omega) (by omega) (List.Sublist.refl _)
    · rw [if_neg c, if_neg c]
  · rw [if_neg hw]
    rfl
theorem rsl_l1 {a b : Int} (hw : okWin a b) (l acc : List S58) (i : Nat) (hi : i < l.length) (hl : l.length ≤ 1000) (ha : acc.length ≤ 1000) (hx : U64 l[i].f0) (hu : ∀ y ∈ acc, U64 y.f0 ∧ y.f0 ≤ l[i].f0) (hc : ∀ y ∈ acc, 0 ≤ y.f1 ∧ y.f1 ≤ 1000000000) : ∀ (d j k : Nat) (s : Int), j + d = acc.length → d + 1 ≤ k → 0 ≤ s → s ≤ 1000000000 * ((j : Int) + 1) →
    spigotref38_Slide.l1 k l acc (i : Int) s (j : Int) a b = if s + sF (inS b l[i].f0) (acc.drop j) ≤ a then spigotref38_Slide.l0 (k - d - 1) l (acc ++ [l[i]]) ((i + 1 : Nat) : Int) a b else spigotref38_Slide.l0 (k - d - 1) l acc ((i + 1 : Nat) : Int) a b := by
  intro d
  induction d with
  | zero =>
    intro j k s hj hk h0 h1
    obtain ⟨k, rfl⟩ : ∃ m, k = m + 1 := ⟨k - 1, by omega⟩
    have e : s + sF (inS b l[i].f0) (acc.drop j) = s := by
      rw [List.drop_eq_nil_of_le (by omega)]
      show s + 0 = s
      omega
    have ek : k + 1 - 0 - 1 = k := by omega
    simp only [spigotref38_Slide.l1]
    rw [if_neg (by omega), e, ek]
    by_cases c : s ≤ a
    · rw [if_pos c, if_pos c, if_pos (by omega), if_pos (by omega), if_pos (by omega), rdC_at hi, wj (by omega)]
    · rw [if_neg c, if_neg c, wj (by omega)]
  | succ d ih =>
    intro j k s hj hk h0 h1
    obtain ⟨k, rfl⟩ : ∃ m, k = m + 1 := ⟨k - 1, by omega⟩
    have hjl : j < acc.length := by omega
    obtain ⟨u1, u2⟩ := hu _ (List.getElem_mem hjl)
    obtain ⟨c1, c2⟩ := hc _ (List.getElem_mem hjl)
    have ek : k + 1 - (d + 1) - 1 = k - d - 1 := by omega
    have ew : wrap64 (s + acc[j].f1) = s + acc[j].f1 := by unfold wrap64; omega
    have es : s + sF (inS b l[i].f0) (acc.drop j) = (if inS b l[i].f0 acc[j].f0 = true then s + acc[j].f1 else s) + sF (inS b l[i].f0) (acc.drop (j + 1)) := by
      rw [dropC hjl]
      show s + ((if inS b l[i].f0 acc[j].f0 = true then acc[j].f1 else 0) + _) = _
      split <;> omega
    simp only [spigotref38_Slide.l1]
    rw [ek, es]
    rw [if_pos (by omega), if_pos (by omega), if_pos (by omega), if_pos (by omega), rdC_at hjl, rdC_at hi, within_ok hw hx u1 u2, wj (by omega), ew]
    simp only [Option.bind_some]
    by_cases c : inS b l[i].f0 acc[j].f0 = true
    · rw [if_pos c, if_pos c]
      exact ih (j + 1) k _ (by omega) (by omega) (by omega) (by omega)
    · rw [if_neg c, if_neg c]
      exact ih (j + 1) k _ (by omega) (by omega) (by omega) (by omega)
theorem rsl_l0 {a b : Int} (hw : okWin a b) (l : List S58) (hl : l.length ≤ 60) (hr : ∀ x ∈ l, cR x) (hb : okB l 0 = true) : ∀ (d i k : Nat) (acc : List S58), i + d = l.length → d * 62 + 70 ≤ k → (acc ++ l.drop i).Sublist l →
    spigotref38_Slide.l0 k l acc (i : Int) a b = some (acc ++ adm a (inS b) (l.drop i) acc.reverse, 0) := by
  have hs : 0 < b := by have := hw.2.1; omega
  intro d
  induction d with
  | zero =>
    intro i k acc hj hk hsub
    obtain ⟨k, rfl⟩ : ∃ m, k = m + 1 := ⟨k - 1, by omega⟩
    simp only [spigotref38_Slide.l0]
    rw [if_neg (by omega), List.drop_eq_nil_of_le (by omega)]
    simp [adm]
  | succ d ih =>
    intro i k acc hj hk hsub
    obtain ⟨k, rfl⟩ : ∃ m, k = m + 1 := ⟨k - 1, by omega⟩
    have hil : i < l.length := by omega
    rw [dropC hil] at hsub ⊢
    have hd := acc_desc hb hsub
    have hal : acc.length ≤ 60 := by
      have := hsub.length_le
      simp at this
      omega
    have hm : ∀ y ∈ acc, y ∈ l := fun y hy => hsub.subset (List.mem_append.2 (Or.inl hy))
    have hx := hr _ (List.getElem_mem hil)
    have hle : ∀ y ∈ acc, y.f0 ≤ l[i].f0 := fun y hy => desc_le hd y (List.mem_reverse.2 hy)
    have hcx := ((okB_spec hb).1 _ (List.getElem_mem hil)).2.2
    have e := rsl_l1 hw l acc i hil (by omega) (by omega) hx.1 (fun y hy => ⟨(hr y (hm y hy)).1, hle y hy⟩) (fun y hy => ((okB_spec hb).1 y (hm y hy)).2.2) acc.length 0 k l[i].f1 (by omega) (by omega) hcx.1 (by omega)
    rw [List.drop_zero, ← sF_reverse, ← sB_eq_sF (inS_up b l[i].f0) (desc_tail hd) (fun y hy => hle y (List.mem_reverse.1 hy))] at e
    have s1 : ((acc ++ [l[i]]) ++ l.drop (i + 1)).Sublist l := by rw [List.append_assoc]; exact hsub
    have s2 : (acc ++ l.drop (i + 1)).Sublist l := ((List.sublist_cons_self _ _).append_left acc).trans hsub
    simp only [spigotref38_Slide.l0]
    rw [if_pos (by omega), if_pos (by omega), rdC_at hil]
    refine e.trans ?_
    unfold adm
    by_cases c : l[i].f1 + sB (inS b l[i].f0) acc.reverse ≤ a
    · rw [if_pos c, if_pos c, ih (i + 1) _ _ (by omega) (by omega) s1, List.reverse_append, List.reverse_singleton, List.singleton_append, List.append_assoc, List.singleton_append]
    · rw [if_neg c, if_neg c, ih (i + 1) _ _ (by omega) (by omega) s2]
theorem rsl_ok {a b : Int} {l : List S58} (hr : ∀ x ∈ l, cR x) (k : Nat) (hk : 5000 ≤ k) : spigotref38_Slide.f k a b l = window_Slide.f k a b l := by
  unfold spigotref38_Slide.f window_Slide.f
  rw [rBoth a b l hr k (by omega), wBoth a b l hr k (by omega)]
  simp only [Option.bind_some]
  by_cases hw : okWin a b
  · rw [if_pos hw]
    by_cases c : chOf l = 0
    · obtain ⟨h1, h2⟩ := (chOf_zero hr).1 c
      rw [if_pos c, if_pos c, if_pos (okW_of hw h1 h2)]
      exact rsl_l0 hw l h1 hr h2 l.length 0 k [] (by omega) (by omega) (List.Sublist.refl _)
    · rw [if_neg c, if_neg c]
  · rw [if_neg hw]
    rfl
theorem adm_of {same : Int → Int → Bool} {a : Int} {l : List S58} : (adm a same l []).length ≤ l.length := adm_len _ _ _ _
theorem fixed_any (a b : Int) (l : List S58) (hl : l.length ≤ 100) (hr : ∀ x ∈ l, cR x) (k : Nat) (hk : 70 ≤ k) : ∃ o e, window_Fixed.f k a b l = some (o, e) ∧ o.length ≤ 100 := by
  unfold window_Fixed.f
  rw [wBoth a b l hr k hk]
  simp only [Option.bind_some]
  by_cases c : (if okWin a b then chOf l else 8) = 0
  · by_cases hw : okWin a b
    · rw [if_pos hw] at c
      obtain ⟨h1, h2⟩ := (chOf_zero hr).1 c
      rw [if_pos hw, if_pos c, if_pos (okW_of hw h1 h2)]
      have := adm_len a (inF b) l []
      exact ⟨_, _, rfl, by omega⟩
    · rw [if_neg hw] at c
      exact absurd c (by decide)
  · rw [if_neg c]
    exact ⟨_, _, rfl, by simp⟩
theorem slide_any (a b : Int) (l : List S58) (hl : l.length ≤ 100) (hr : ∀ x ∈ l, cR x) (k : Nat) (hk : 70 ≤ k) : ∃ o e, window_Slide.f k a b l = some (o, e) ∧ o.length ≤ 100 := by
  unfold window_Slide.f
  rw [wBoth a b l hr k hk]
  simp only [Option.bind_some]
  by_cases c : (if okWin a b then chOf l else 8) = 0
  · by_cases hw : okWin a b
    · rw [if_pos hw] at c
      obtain ⟨h1, h2⟩ := (chOf_zero hr).1 c
      rw [if_pos hw, if_pos c, if_pos (okW_of hw h1 h2)]
      have := adm_len a (inS b) l []
      exact ⟨_, _, rfl, by omega⟩
    · rw [if_neg hw] at c
      exact absurd c (by decide)
  · rw [if_neg c]
    exact ⟨_, _, rfl, by simp⟩
theorem WindowAdmits_pure (a b : Int) (l : List S58) (_ : I64 a) (_ : I64 b) (_ : l.length ≤ maxLen) (hr : ∀ x ∈ l, U64 x.f0 ∧ I64 x.f1) : ∃ k, spigotlaw38_WindowAdmits.f k a b l = some true := by
  refine ⟨5000, ?_⟩
  obtain ⟨g, eg, hgl⟩ := great38 l
  unfold spigotlaw38_WindowAdmits.f
  rw [eg]
  simp only [Option.bind_some]
  by_cases hg : g = true
  · rw [if_pos hg]
  · have hl := hgl (Bool.eq_false_iff.2 hg)
    obtain ⟨o, e, ho, hol⟩ := fixed_any a b l hl hr 5000 (by omega)
    obtain ⟨p, f, hp, hpl⟩ := slide_any a b l hl hr 5000 (by omega)
    have hlim : ∃ x y z t, window_Limit.f a b = some (x, y, z, t) ∧ spigotref38_Limit.f a b = some (x, y, z, t) := by
      unfold window_Limit.f spigotref38_Limit.f
      rw [(wCheck a b).1, (wCheck a b).2]
      simp only [Option.bind_some]
      by_cases hw : okWin a b
      · rw [if_pos hw, if_pos rfl]
        exact ⟨_, _, _, _, rfl, rfl⟩
      · rw [if_neg hw, if_neg (by decide)]
        exact ⟨_, _, _, _, rfl, rfl⟩
    obtain ⟨x, y, z, t, l1, l2⟩ := hlim
    rw [if_neg hg, if_pos (by simp; omega), rfx_ok hr 5000 (by omega), rsl_ok hr 5000 (by omega), ho, hp, l1, l2, (wCheck a b).1, (wCheck a b).2, wCharges l hr 5000 (by omega), rCharges l hr 5000 (by omega)]
    simp only [Option.bind_some, ↓reduceIte, beq_self_eq_true, Bool.and_self]
    rw [same_self o (by omega) 5000 (by omega), same_self p (by omega) 5000 (by omega), List.nil_append, same_self l (by omega) 5000 (by omega)]
    simp only [Option.bind_some, ↓reduceIte]
end Go.Proofs.Ytjjmnafhaneflaa.X
