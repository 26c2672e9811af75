/- WindowCounts, and what it needs. -/
import Derived.Test.YtjjmnafhaneflaaX0
import Derived.Test.YtjjmnafhaneflaaX4
import Derived.Test.YtjjmnafhaneflaaX5
import Derived.Test.YtjjmnafhaneflaaX6
import Derived.Test.YtjjmnafhaneflaaX7
import Derived.Test.YtjjmnafhaneflaaX8
import Derived.Test.YtjjmnafhaneflaaX9
import Derived.Test.YtjjmnafhaneflaaX10
import Derived.Test.YtjjmnafhaneflaaX11
import Derived.Test.YtjjmnafhaneflaaX12
import Derived.Test.YtjjmnafhaneflaaX13
import Derived.Test.YtjjmnafhaneflaaX14
import Derived.Test.YtjjmnafhaneflaaX15
import Derived.Test.YtjjmnafhaneflaaX16
import Derived.Test.YtjjmnafhaneflaaX17
import Derived.Test.YtjjmnafhaneflaaX18
import Derived.Test.YtjjmnafhaneflaaMath
namespace Go.Proofs.Ytjjmnafhaneflaa.X
open Go.RowKit Go.Proofs.YtjjmnafhaneflaaW.PrintWords Go.Proofs.YtjjmnafhaneflaaW.PrintLast Go.Proofs.YtjjmnafhaneflaaW.PrintMore
set_option linter.unusedVariables false
set_option linter.unusedSimpArgs false

theorem wj {j : Nat} (h : j < 9223372036854775807) : wrap64 ((j : Int) + 1) = ((j + 1 : Nat) : Int) := by unfold wrap64; omega
def sF (p : Int → Bool) : List S58 → Int
  | [] => 0
  | x :: r => (if p x.f0 = true then x.f1 else 0) + sF p r
def okA (cap : Int) (same : Int → Int → Bool) : List S58 → List S58 → Prop
  | [], _ => True
  | x :: c, acc => x.f1 + sB (same x.f0) acc ≤ cap ∧ okA cap same c (x :: acc)
/-- The newest first: no tick is greater than the one ahead of it. -/
def desc : List S58 → Prop
  | [] => True
  | [_] => True
  | x :: y :: r => y.f0 ≤ x.f0 ∧ desc (y :: r)
theorem desc_tail {x : S58} {r : List S58} (h : desc (x :: r)) : desc r := by
  cases r with
  | nil => trivial
  | cons y r => exact h.2
theorem desc_le : ∀ {r : List S58} {x : S58}, desc (x :: r) → ∀ y ∈ r, y.f0 ≤ x.f0
  | [], _, _ => fun y hy => by cases hy
  | z :: r, x, h => fun y hy => by
    rcases List.mem_cons.1 hy with e | hy
    · rw [e]
      exact h.1
    · exact Int.le_trans (desc_le h.2 y hy) h.1
theorem desc_cons {x : S58} : ∀ {r : List S58}, desc r → (∀ y ∈ r, y.f0 ≤ x.f0) → desc (x :: r)
  | [], _, _ => trivial
  | z :: r, h, g => ⟨g z List.mem_cons_self, h⟩
/-- The costs are not below 0. -/
def posC (l : List S58) : Prop := ∀ x ∈ l, 0 ≤ x.f1
theorem sF_nonneg {p : Int → Bool} : ∀ {r : List S58}, posC r → 0 ≤ sF p r
  | [], _ => Int.le_refl _
  | x :: r, h => by
    unfold sF
    have h1 := h x List.mem_cons_self
    have h2 := sF_nonneg (p := p) (r := r) fun y hy => h y (List.mem_cons_of_mem _ hy)
    split <;> omega
theorem sF_none {p : Int → Bool} : ∀ {r : List S58}, (∀ x ∈ r, p x.f0 = false) → sF p r = 0
  | [], _ => rfl
  | x :: r, h => by
    unfold sF
    rw [h x List.mem_cons_self, sF_none fun y hy => h y (List.mem_cons_of_mem _ hy)]
    rfl
/-- In a window that is an end of what came, both sums are the same. -/
theorem sB_eq_sF {p : Int → Bool} {T : Int} (hp : ∀ t u, t ≤ u → u ≤ T → p t = true → p u = true) : ∀ {r : List S58}, desc r → (∀ x ∈ r, x.f0 ≤ T) → sB p r = sF p r
  | [], _, _ => rfl
  | x :: r, hd, hT => by
    have ih := sB_eq_sF hp (r := r) (desc_tail hd) fun y hy => hT y (List.mem_cons_of_mem _ hy)
    unfold sB sF
    cases e : p x.f0 with
    | true => rw [if_pos rfl, if_pos rfl, ih]
    | false =>
      rw [if_neg (by decide), if_neg (by decide)]
      have : sF p r = 0 := by
        refine sF_none fun y hy => ?_
        cases g : p y.f0 with
        | false => rfl
        | true =>
          have := hp y.f0 x.f0 (desc_le hd y hy) (hT x List.mem_cons_self) g
          rw [e] at this
          cases this
      rw [this]
      rfl
theorem sF_append (p : Int → Bool) : ∀ (a b : List S58), sF p (a ++ b) = sF p a + sF p b
  | [], b => by
    show sF p b = 0 + sF p b
    omega
  | x :: a, b => by
    show (if p x.f0 = true then x.f1 else 0) + sF p (a ++ b) = (if p x.f0 = true then x.f1 else 0) + sF p a + sF p b
    rw [sF_append p a b]
    omega
theorem sF_reverse (p : Int → Bool) : ∀ (a : List S58), sF p a.reverse = sF p a
  | [] => rfl
  | x :: a => by
    rw [List.reverse_cons, sF_append, sF_reverse p a]
    show sF p a + ((if p x.f0 = true then x.f1 else 0) + 0) = (if p x.f0 = true then x.f1 else 0) + sF p a
    omega
/-! #### the windows -/
theorem bg_spec {span t : Int} (hs : 0 < span) : bg span t = t / span * span ∧ bg span t ≤ t ∧ t < bg span t + span := by
  have h := div_rest (n := t) hs
  unfold bg
  omega
theorem inS_up (span x : Int) : ∀ t u, t ≤ u → u ≤ x → inS span x t = true → inS span x u = true := by
  intro t u h _ g
  unfold inS at g ⊢
  rw [decide_eq_true_iff] at g ⊢
  omega
/-- What was admitted, step by step, as a list with the newest first. -/
theorem okA_suffix {cap : Int} {same : Int → Int → Bool} : ∀ {c acc : List S58}, okA cap same c acc → (∀ x s, (x :: s) <:+ acc → x.f1 + sB (same x.f0) s ≤ cap) → ∀ x s, (x :: s) <:+ (c.reverse ++ acc) → x.f1 + sB (same x.f0) s ≤ cap
  | [], acc, _, h => h
  | y :: c, acc, ⟨h1, h2⟩, h => by
    intro x s hxs
    rw [List.reverse_cons, List.append_assoc] at hxs
    refine okA_suffix h2 ?_ x s hxs
    intro z u hz
    rcases List.suffix_cons_iff.1 hz with g | g
    · obtain ⟨e1, e2⟩ := List.cons.inj g
      subst e1
      subst e2
      exact h1
    · exact h z u g
theorem sB_own {span : Int} (hs : 0 < span) (x : S58) (acc : List S58) : sB (inS span x.f0) (x :: acc) = x.f1 + sB (inS span x.f0) acc := by
  show (if inS span x.f0 x.f0 = true then _ else _) = _
  rw [if_pos (by unfold inS; rw [decide_eq_true_iff]; omega)]
theorem mx_le {a b k : Int} : mx a b ≤ k ↔ a ≤ k ∧ b ≤ k := by unfold mx; split <;> omega
theorem mostL_iff {span k : Int} (hs : 0 < span) : ∀ (c acc : List S58) (m : Int), mostL span c acc m ≤ k ↔ m ≤ k ∧ okA k (inS span) c acc
  | [], _, m => ⟨fun h => ⟨h, trivial⟩, fun h => h.1⟩
  | x :: c, acc, m => by
    unfold mostL okA
    rw [mostL_iff hs c (x :: acc), mx_le, sB_own hs]
    exact ⟨fun ⟨⟨a, b⟩, d⟩ => ⟨a, b, d⟩, fun ⟨a, b, d⟩ => ⟨⟨a, b⟩, d⟩⟩
theorem mostL_ge (span : Int) : ∀ (c acc : List S58) (m : Int), m ≤ mostL span c acc m
  | [], _, m => Int.le_refl _
  | x :: c, acc, m => by
    unfold mostL
    have h1 := mostL_ge span c (x :: acc) (mx m (sB (inS span x.f0) (x :: acc)))
    have h2 : m ≤ mx m (sB (inS span x.f0) (x :: acc)) := by unfold mx; split <;> omega
    omega
theorem okA_of {cap : Int} {same : Int → Int → Bool} : ∀ {c acc : List S58}, (∀ x s, (x :: s) <:+ (c.reverse ++ acc) → x.f1 + sB (same x.f0) s ≤ cap) → okA cap same c acc
  | [], _, _ => trivial
  | y :: c, acc, h => by
    refine ⟨h y acc ?_, okA_of (c := c) (acc := y :: acc) fun x s hs => h x s ?_⟩
    · rw [List.reverse_cons, List.append_assoc]
      exact List.suffix_append _ _
    · rw [List.reverse_cons, List.append_assoc]
      exact hs
theorem desc_suffix : ∀ {r q : List S58}, desc r → q <:+ r → desc q
  | [], q, _, h => by
    rw [List.suffix_nil.1 h]
    trivial
  | x :: r, q, hd, h => by
    rcases List.suffix_cons_iff.1 h with g | g
    · rw [g]
      exact hd
    · exact desc_suffix (desc_tail hd) g
def cR (x : S58) : Prop := U64 x.f0 ∧ I64 x.f1
theorem rdC_at {l : List S58} {j : Nat} (h : j < l.length) : rd_T58 l (j : Int) = l[j] := by
  unfold rd_T58
  rw [List.getD_eq_getElem?_getD, Int.toNat_natCast, List.getElem?_eq_getElem h]
  rfl
theorem dropC {l : List S58} {j : Nat} (h : j < l.length) : l.drop j = l[j] :: l.drop (j + 1) := List.drop_eq_getElem_cons h
abbrev okWin (a b : Int) : Prop := (1 ≤ a ∧ a ≤ 1000000000) ∧ 1 ≤ b ∧ b ≤ 1000000000
theorem wCheck (a b : Int) : window_Check.f a b = some (if okWin a b then 0 else 8) ∧ spigotref38_Check.f a b = some (if okWin a b then 0 else 8) := by
  have h : window_Check.f a b = some (if okWin a b then 0 else 8) := by
    unfold window_Check.f
    by_cases h1 : a < 1
    · rw [if_pos h1, if_neg (by unfold okWin; omega)]
    · rw [if_neg h1]
      by_cases h2 : a > 1000000000
      · rw [if_pos h2, if_neg (by unfold okWin; omega)]
      · rw [if_neg h2]
        by_cases h3 : b < 1
        · rw [if_pos h3, if_neg (by unfold okWin; omega)]
        · rw [if_neg h3]
          by_cases h4 : b > 1000000000
          · rw [if_pos h4, if_neg (by unfold okWin; omega)]
          · rw [if_neg h4, if_pos (by unfold okWin; omega)]
  exact ⟨h, h⟩
/-! #### charges -/
def badC (x : S58) : Bool := decide (x.f1 < 0) || decide (x.f1 > 1000000000)
def okU : Int → List S58 → Bool
  | _, [] => true
  | t, x :: l => decide (t ≤ x.f0) && okU x.f0 l
def chOf (l : List S58) : Int := if 60 < l.length then 4 else if l.any badC = true then 8 else if okU 0 l = true then 0 else 32
theorem okB_eq : ∀ (l : List S58) (t : Int), (∀ x ∈ l, cR x) → okB l t = (okU t l && !(l.any badC))
  | [], _, _ => rfl
  | x :: l, t, h => by
    have h1 := h x List.mem_cons_self
    have ih := okB_eq l x.f0 fun y hy => h y (List.mem_cons_of_mem _ hy)
    obtain ⟨⟨u0, u1⟩, _⟩ := h1
    unfold okB okU
    rw [ih, List.any_cons, decide_eq_true u1, Bool.true_and]
    unfold badC
    by_cases a : t ≤ x.f0
    · by_cases b : 0 ≤ x.f1
      · by_cases c : x.f1 ≤ 1000000000
        · rw [decide_eq_true a, decide_eq_true b, decide_eq_true c, decide_eq_false (show ¬ x.f1 < 0 by omega), decide_eq_false (show ¬ x.f1 > 1000000000 by omega)]
          simp
        · rw [decide_eq_false c, decide_eq_true (show x.f1 > 1000000000 by omega)]
          simp
      · rw [decide_eq_false b, decide_eq_true (show x.f1 < 0 by omega)]
        simp
    · rw [decide_eq_false a]
      simp
theorem chOf_zero {l : List S58} (h : ∀ x ∈ l, cR x) : chOf l = 0 ↔ l.length ≤ 60 ∧ okB l 0 = true := by
  rw [okB_eq l 0 h, Bool.and_eq_true, Bool.not_eq_true']
  unfold chOf
  by_cases a : 60 < l.length
  · rw [if_pos a]
    exact ⟨fun h => (by cases h), fun h => by omega⟩
  · rw [if_neg a]
    by_cases b : l.any badC = true
    · rw [if_pos b, b]
      exact ⟨fun h => (by cases h), fun h => by cases h.2.2⟩
    · rw [if_neg b]
      by_cases c : okU 0 l = true
      · rw [if_pos c]
        exact ⟨fun _ => ⟨by omega, c, Bool.eq_false_iff.2 b⟩, fun _ => rfl⟩
      · rw [if_neg c]
        exact ⟨fun h => (by cases h), fun h => absurd h.2.1 c⟩
theorem okU_of {x : S58} {l : List S58} (h : cR x) : okU 0 (x :: l) = okU x.f0 l := by
  show (decide (0 ≤ x.f0) && _) = _
  rw [decide_eq_true h.1.1, Bool.true_and]
theorem find_ok (l : List S58) (hl : l.length ≤ 1000) : ∀ (d j k : Nat), j + d = l.length → d + 1 ≤ k → ∃ i, slices_IndexFunc_api_Charge_c40.l0 k l (l.length : Int) (j : Int) = some i ∧ decide (i ≥ 0) = (l.drop j).any badC := by
  intro d
  induction d with
  | zero =>
    intro j k hj hk
    obtain ⟨k, rfl⟩ : ∃ m, k = m + 1 := ⟨k - 1, by omega⟩
    simp only [slices_IndexFunc_api_Charge_c40.l0]
    rw [if_neg (by omega), List.drop_eq_nil_of_le (by omega)]
    exact ⟨_, rfl, rfl⟩
  | succ d ih =>
    intro j k hj hk
    obtain ⟨k, rfl⟩ : ∃ m, k = m + 1 := ⟨k - 1, by omega⟩
    have hjl : j < l.length := by omega
    simp only [slices_IndexFunc_api_Charge_c40.l0]
    rw [if_pos (by omega), if_pos (by omega), if_pos (by omega), rdC_at hjl, dropC hjl, List.any_cons, wj (by omega)]
    have e : window_Charges_1.f l[j].f0 l[j].f1 = some (badC l[j]) := by
      unfold window_Charges_1.f badC
      by_cases a : l[j].f1 < 0
      · rw [if_pos a, decide_eq_true a, Bool.true_or]
      · rw [if_neg a, decide_eq_false a, Bool.false_or]
    rw [e]
    simp only [Option.bind_some]
    by_cases c : badC l[j] = true
    · rw [if_pos c, c, Bool.true_or]
      exact ⟨_, rfl, decide_eq_true (by omega)⟩
    · rw [if_neg c, Bool.eq_false_iff.2 c, Bool.false_or]
      exact ih (j + 1) k (by omega) (by omega)
theorem has_bad (l : List S58) (hl : l.length ≤ 1000) (a : Int) (k : Nat) (hk : l.length + 1 ≤ k) : slices_ContainsFunc_api_Charge_c40.f k l a = some (l.any badC) := by
  obtain ⟨i, e1, e2⟩ := find_ok l hl l.length 0 k (by omega) hk
  unfold slices_ContainsFunc_api_Charge_c40.f slices_IndexFunc_api_Charge_c40.f
  have e1' : slices_IndexFunc_api_Charge_c40.l0 k l (l.length : Int) 0 = some i := e1
  rw [e1']
  simp only [Option.bind_some]
  rw [e2]
  rfl
theorem sorted_w (l : List S58) (hl : l.length ≤ 1000) : ∀ (d j k : Nat), j + 1 + d = l.length → d + 1 ≤ k → ∀ (h : j < l.length), window_Charges.l0 k l (l.length : Int) ((j + 1 : Nat) : Int) = some (if okU l[j].f0 (l.drop (j + 1)) = true then 0 else 32) := by
  intro d
  induction d with
  | zero =>
    intro j k hj hk h
    obtain ⟨k, rfl⟩ : ∃ m, k = m + 1 := ⟨k - 1, by omega⟩
    simp only [window_Charges.l0]
    rw [if_neg (by omega), List.drop_eq_nil_of_le (by omega)]
    rfl
  | succ d ih =>
    intro j k hj hk h
    obtain ⟨k, rfl⟩ : ∃ m, k = m + 1 := ⟨k - 1, by omega⟩
    have hjl : j + 1 < l.length := by omega
    have e1 : wrap64 (((j + 1 : Nat) : Int) - 1) = (j : Int) := by unfold wrap64; omega
    simp only [window_Charges.l0]
    rw [if_pos (by omega), if_pos (by omega), if_pos (by omega), if_pos (by omega), e1, if_pos (by omega), if_pos (by omega), rdC_at hjl, rdC_at h, wj (by omega), dropC hjl]
    unfold okU
    by_cases c : l[j + 1].f0 < l[j].f0
    · rw [if_pos c, decide_eq_false (by omega), Bool.false_and, if_neg (by decide)]
    · rw [if_neg c, decide_eq_true (by omega), Bool.true_and]
      exact ih (j + 1) k (by omega) (by omega) hjl
theorem sorted_r (l : List S58) (hl : l.length ≤ 1000) : ∀ (d j k : Nat), j + 1 + d = l.length → d + 1 ≤ k → ∀ (h : j < l.length), spigotref38_Charges.l1 k l ((j + 1 : Nat) : Int) = some (if okU l[j].f0 (l.drop (j + 1)) = true then 0 else 32) := by
  intro d
  induction d with
  | zero =>
    intro j k hj hk h
    obtain ⟨k, rfl⟩ : ∃ m, k = m + 1 := ⟨k - 1, by omega⟩
    simp only [spigotref38_Charges.l1]
    rw [if_neg (by omega), List.drop_eq_nil_of_le (by omega)]
    rfl
  | succ d ih =>
    intro j k hj hk h
    obtain ⟨k, rfl⟩ : ∃ m, k = m + 1 := ⟨k - 1, by omega⟩
    have hjl : j + 1 < l.length := by omega
    have e1 : wrap64 (((j + 1 : Nat) : Int) - 1) = (j : Int) := by unfold wrap64; omega
    simp only [spigotref38_Charges.l1]
    rw [if_pos (by omega), if_pos (by omega), e1, if_pos (by omega), if_pos (by omega), rdC_at hjl, rdC_at h, wj (by omega), dropC hjl]
    unfold okU
    by_cases c : l[j + 1].f0 < l[j].f0
    · rw [if_pos c, decide_eq_false (by omega), Bool.false_and, if_neg (by decide)]
    · rw [if_neg c, decide_eq_true (by omega), Bool.true_and]
      exact ih (j + 1) k (by omega) (by omega) hjl
theorem wCharges (l : List S58) (hr : ∀ x ∈ l, cR x) (k : Nat) (hk : 70 ≤ k) : window_Charges.f k l = some (chOf l) := by
  unfold window_Charges.f chOf
  by_cases a : 60 < l.length
  · rw [if_pos (by omega), if_pos a]
  · rw [if_neg (by omega), if_neg a, has_bad l (by omega) 0 k (by omega)]
    simp only [Option.bind_some]
    by_cases b : l.any badC = true
    · rw [if_pos b, if_pos b]
    · rw [if_neg b, if_neg b]
      cases l with
      | nil =>
        obtain ⟨k, rfl⟩ : ∃ m, k = m + 1 := ⟨k - 1, by omega⟩
        simp only [window_Charges.l0]
        rw [if_neg (by simp)]
        rfl
      | cons x l =>
        obtain ⟨k, rfl⟩ : ∃ m, k = m + 1 := ⟨k - 1, by omega⟩
        rw [okU_of (hr x List.mem_cons_self)]
        have h := sorted_w (x :: l) (by omega) l.length 0 k (by simp; omega) (by simp at a; omega) (by simp)
        simp only [window_Charges.l0]
        rw [if_pos (by simp), if_neg (by omega), show wrap64 (0 + 1) = ((0 + 1 : Nat) : Int) by unfold wrap64; omega]
        exact h
theorem rcost_ok (l : List S58) (hl : l.length ≤ 1000) : ∀ (d j k : Nat), j + d = l.length → d + 1 ≤ k → ((l.drop j).any badC = true → spigotref38_Charges.l0 k l (j : Int) = some 8) ∧ ((l.drop j).any badC = false → spigotref38_Charges.l0 k l (j : Int) = spigotref38_Charges.l1 (k - d - 1) l 1) := by
  intro d
  induction d with
  | zero =>
    intro j k hj hk
    obtain ⟨k, rfl⟩ : ∃ m, k = m + 1 := ⟨k - 1, by omega⟩
    simp only [spigotref38_Charges.l0]
    rw [if_neg (by omega), List.drop_eq_nil_of_le (by omega)]
    exact ⟨fun h => (by cases h), fun _ => rfl⟩
  | succ d ih =>
    intro j k hj hk
    obtain ⟨k, rfl⟩ : ∃ m, k = m + 1 := ⟨k - 1, by omega⟩
    have hjl : j < l.length := by omega
    have i1 := ih (j + 1) k (by omega) (by omega)
    have ek : k + 1 - (d + 1) - 1 = k - d - 1 := by omega
    simp only [spigotref38_Charges.l0]
    rw [if_pos (by omega), if_pos (by omega), rdC_at hjl, dropC hjl, List.any_cons, wj (by omega), ek]
    unfold badC
    by_cases a : l[j].f1 < 0
    · rw [if_pos a, decide_eq_true a, Bool.true_or, Bool.true_or]
      exact ⟨fun _ => rfl, fun h => by cases h⟩
    · rw [if_neg a, decide_eq_false a, Bool.false_or]
      by_cases b : l[j].f1 > 1000000000
      · rw [if_pos b, decide_eq_true b, Bool.true_or]
        exact ⟨fun _ => rfl, fun h => by cases h⟩
      · rw [if_neg b, decide_eq_false b, Bool.false_or]
        exact i1
theorem rCharges (l : List S58) (hr : ∀ x ∈ l, cR x) (k : Nat) (hk : 130 ≤ k) : spigotref38_Charges.f k l = some (chOf l) := by
  unfold spigotref38_Charges.f chOf
  by_cases a : 60 < l.length
  · rw [if_pos (by omega), if_pos a]
  · rw [if_neg (by omega), if_neg a]
    obtain ⟨r1, r2⟩ := rcost_ok l (by omega) l.length 0 k (by omega) (by omega)
    rw [List.drop_zero] at r1 r2
    by_cases b : l.any badC = true
    · rw [if_pos b]
      exact r1 b
    · rw [if_neg b]
      have h := r2 (Bool.eq_false_iff.2 b)
      refine h.trans ?_
      obtain ⟨m, hm⟩ : ∃ m, k - l.length - 1 = m + 1 := ⟨k - l.length - 2, by omega⟩
      cases l with
      | nil =>
        rw [hm]
        simp only [spigotref38_Charges.l1]
        rw [if_neg (by simp)]
        rfl
      | cons x l =>
        rw [okU_of (hr x List.mem_cons_self)]
        exact sorted_r (x :: l) (by omega) l.length 0 _ (by simp; omega) (by simp at a ⊢; omega) (by simp)
theorem wBoth (a b : Int) (l : List S58) (hr : ∀ x ∈ l, cR x) (k : Nat) (hk : 70 ≤ k) : window_both.f k a b l = some (if okWin a b then chOf l else 8) := by
  unfold window_both.f
  rw [(wCheck a b).1]
  simp only [Option.bind_some]
  by_cases h : okWin a b
  · rw [if_pos h, if_pos rfl, wCharges l hr k hk, if_pos h]
    rfl
  · rw [if_neg h, if_neg (by decide), if_neg h]
/-! #### same lists -/
theorem okB_pos {l : List S58} {t : Int} (h : okB l t = true) : posC l := fun x hx => ((okB_spec h).1 x hx).2.2.1
theorem okB_desc : ∀ {l : List S58} {t : Int} {r : List S58}, okB l t = true → desc r → (∀ y ∈ r, y.f0 ≤ t) → desc (l.reverse ++ r)
  | [], _, _, _, hr, _ => hr
  | x :: l, t, r, h, hr, hy => by
    simp only [okB, Bool.and_eq_true, decide_eq_true_eq] at h
    rw [List.reverse_cons, List.append_assoc, List.singleton_append]
    refine okB_desc (t := x.f0) h.2.2.2.2 (desc_cons hr fun y h' => Int.le_trans (hy y h') h.1) fun y h' => ?_
    rcases List.mem_cons.1 h' with e | e
    · rw [e]; exact Int.le_refl _
    · exact Int.le_trans (hy y e) h.1
theorem okB_desc' {l : List S58} {t : Int} (h : okB l t = true) : desc l.reverse := by
  have := okB_desc (r := []) h trivial (fun y hy => by cases hy)
  rwa [List.append_nil] at this
theorem okW_of {a b : Int} {l : List S58} (hw : okWin a b) (hl : l.length ≤ 60) (h : okB l 0 = true) : okW a b l = true := by
  unfold okW
  obtain ⟨⟨h1, h2⟩, h3, h4⟩ := hw
  rw [decide_eq_true h1, decide_eq_true h2, decide_eq_true h3, decide_eq_true h4, decide_eq_true (show l.length ≤ 1000 by omega), h]
  rfl
theorem most_ok {a b : Int} {l : List S58} (hr : ∀ x ∈ l, cR x) (hw : okWin a b) (hl : l.length ≤ 60) (h : okB l 0 = true) (k : Nat) (hk : 70 ≤ k) : window_Most.f k a b l = some (mostL b l [] 0, 0) := by
  unfold window_Most.f
  rw [wBoth a b l hr k hk, if_pos hw, (chOf_zero hr).2 ⟨hl, h⟩]
  simp only [Option.bind_some]
  rw [if_pos (by simp), if_pos (okW_of hw hl h)]
theorem great38 (l : List S58) : ∃ b, spigotref38_Great.f l = some b ∧ (b = false → l.length ≤ 100) := by
  unfold spigotref38_Great.f
  by_cases a : (l.length : Int) > 25
  · rw [if_pos a]
    by_cases b : (l.length : Int) ≤ 60
    · rw [if_pos b]
      exact ⟨true, rfl, fun h => by cases h⟩
    · rw [if_neg b]
      exact ⟨_, rfl, fun h => by have := of_decide_eq_false h; omega⟩
  · rw [if_neg a]
    exact ⟨_, rfl, fun h => by have := of_decide_eq_false h; omega⟩
/-- Counts, the newest first. -/
def cnt (span : Int) : List S58 → List (Int × Int)
  | [] => []
  | x :: r => match cnt span r with
    | [] => [(bg span x.f0, x.f1)]
    | y :: o => if y.1 = bg span x.f0 then (y.1, y.2 + x.f1) :: o else (bg span x.f0, x.f1) :: y :: o
theorem sB_inF_congr {span x y : Int} (h : bg span x = bg span y) (r : List S58) : sB (inF span x) r = sB (inF span y) r := by
  have : inF span x = inF span y := by
    funext t
    unfold inF
    rw [h]
  rw [this]
theorem sB_inF_own {span : Int} (x : S58) (acc : List S58) : sB (inF span x.f0) (x :: acc) = x.f1 + sB (inF span x.f0) acc := by
  show (if inF span x.f0 x.f0 = true then _ else _) = _
  rw [if_pos (by unfold inF; rw [decide_eq_true_iff])]
/-- The newest count: its window's begin, and the sum in it. -/
theorem cnt_head {span : Int} : ∀ (x : S58) (r : List S58), ∃ o, cnt span (x :: r) = (bg span x.f0, sB (inF span x.f0) (x :: r)) :: o ∧
    (∀ y s, r = y :: s → (bg span y.f0 = bg span x.f0 → (cnt span r).tail = o) ∧ (bg span y.f0 ≠ bg span x.f0 → cnt span r = o)) ∧ (r = [] → o = []) := by
  intro x r
  induction r generalizing x with
  | nil =>
    refine ⟨[], ?_, fun y s h => (by cases h), fun _ => rfl⟩
    show [(bg span x.f0, x.f1)] = _
    rw [sB_inF_own]
    show _ = [(_, x.f1 + 0)]
    rw [Int.add_zero]
  | cons y r ih =>
    obtain ⟨o, e, _, _⟩ := ih y
    by_cases c : bg span y.f0 = bg span x.f0
    · refine ⟨o, ?_, fun z s h => ?_, fun h => (by cases h)⟩
      · show (match cnt span (y :: r) with | [] => [(bg span x.f0, x.f1)] | y :: o => if y.1 = bg span x.f0 then (y.1, y.2 + x.f1) :: o else (bg span x.f0, x.f1) :: y :: o) = _
        rw [e]
        simp only
        rw [if_pos c, sB_inF_own x, sB_inF_congr c, c, Int.add_comm]
      · obtain ⟨e1, e2⟩ := List.cons.inj h
        subst e1
        exact ⟨fun _ => by rw [e]; rfl, fun g => absurd c g⟩
    · refine ⟨cnt span (y :: r), ?_, fun z s h => ?_, fun h => (by cases h)⟩
      · show (match cnt span (y :: r) with | [] => [(bg span x.f0, x.f1)] | y :: o => if y.1 = bg span x.f0 then (y.1, y.2 + x.f1) :: o else (bg span x.f0, x.f1) :: y :: o) = _
        rw [e]
        simp only
        rw [if_neg c, sB_inF_own x]
        have : sB (inF span x.f0) (y :: r) = 0 := by
          show (if inF span x.f0 y.f0 = true then _ else _) = _
          rw [if_neg (by unfold inF; rw [decide_eq_true_iff]; exact fun h => c h.symm)]
        rw [this, Int.add_zero]
      · obtain ⟨e1, e2⟩ := List.cons.inj h
        subst e1
        exact ⟨fun g => absurd g c, fun _ => rfl⟩
def inR (span : Int) (x t : Int) : Bool := decide (t ≤ x) && inS span x t
theorem sF_congr {p q : Int → Bool} : ∀ {l : List S58}, (∀ x ∈ l, p x.f0 = q x.f0) → sF p l = sF q l
  | [], _ => rfl
  | x :: l, h => by
    unfold sF
    rw [h x List.mem_cons_self, sF_congr fun y hy => h y (List.mem_cons_of_mem _ hy)]
/-- The sum at the last one of those at its tick. -/
theorem ref_term {span k : Int} (hs : 0 < span) : ∀ (post pre : List S58) (x : S58), desc (pre ++ x :: post).reverse → okA k (inS span) (x :: post) pre.reverse → sF (inR span x.f0) (pre ++ x :: post) ≤ k
  | post, pre, x, hd, ⟨h1, h2⟩ => by
    have hpre : desc (x :: pre.reverse) := by
      have : (pre ++ x :: post).reverse = post.reverse ++ (x :: pre.reverse) := by simp
      rw [this] at hd
      exact desc_suffix hd (List.suffix_append _ _)
    have own : sF (inR span x.f0) (pre ++ [x]) = x.f1 + sB (inS span x.f0) pre.reverse := by
      rw [← sF_reverse, List.reverse_append, List.reverse_singleton, List.singleton_append]
      have hle : ∀ y ∈ x :: pre.reverse, y.f0 ≤ x.f0 := fun y hy => by
        rcases List.mem_cons.1 hy with e | hy
        · rw [e]; exact Int.le_refl _
        · exact desc_le hpre y hy
      rw [← sB_own hs, sB_eq_sF (inS_up span x.f0) hpre hle]
      refine sF_congr fun y hy => ?_
      unfold inR
      rw [decide_eq_true (hle y hy), Bool.true_and]
    cases post with
    | nil => rw [own]; exact h1
    | cons y post =>
      have e : pre ++ x :: y :: post = (pre ++ [x]) ++ y :: post := by simp
      have hd' : desc ((pre ++ [x]) ++ y :: post).reverse := by rw [← e]; exact hd
      have hxy : x.f0 ≤ y.f0 := by
        have : (pre ++ x :: y :: post).reverse = post.reverse ++ (y :: x :: pre.reverse) := by simp
        rw [this] at hd
        exact (desc_suffix hd (List.suffix_append _ _)).1
      by_cases c : y.f0 = x.f0
      · have h3 := ref_term hs post (pre ++ [x]) y hd' (by rw [List.reverse_append]; exact h2)
        rw [c] at h3
        rw [e]
        exact h3
      · have z : sF (inR span x.f0) (y :: post) = 0 := by
          refine sF_none fun w hw => ?_
          have hyw : y.f0 ≤ w.f0 := by
            rcases List.mem_cons.1 hw with g | g
            · rw [g]; exact Int.le_refl _
            · have hr : ((pre ++ [x]) ++ y :: post).reverse = post.reverse ++ (y :: (pre ++ [x]).reverse) := by simp
              rw [hr] at hd'
              obtain ⟨a, b, hab⟩ := List.append_of_mem (List.mem_reverse.2 g)
              rw [hab, List.append_assoc, List.cons_append] at hd'
              exact desc_le (desc_suffix hd' (List.suffix_append _ _)) y (by simp)
          unfold inR
          rw [decide_eq_false (by omega), Bool.false_and]
        rw [e, sF_append, z, Int.add_zero, own]
        exact h1
theorem begin_ok {a b x : Int} (hw : okWin a b) (hx : U64 x) : window_begin.f a b x = some (bg b x) ∧ spigotref38_Begin.f a b x = some (bg b x) := by
  obtain ⟨_, h1, h2⟩ := hw
  obtain ⟨x0, x1⟩ := hx
  obtain ⟨b1, b2, b3⟩ := bg_spec (span := b) (t := x) (by omega)
  have d0 : 0 ≤ x / b := Int.ediv_nonneg x0 (by omega)
  have d1 : x / b ≤ x := Int.ediv_le_self b x0
  have d2 : 0 ≤ x / b * b := Int.mul_nonneg d0 (by omega)
  have ew : IntKind.u64.wrap b = b := wrap_id ⟨by omega, by omega⟩
  constructor
  · unfold window_begin.f
    rw [ew, if_neg (by omega), tmod_nonneg_eq x0]
    have : bg b x = x - x % b := rfl
    rw [← this, wrap_id ⟨by omega, by omega⟩]
  · unfold spigotref38_Begin.f
    rw [ew, if_neg (by omega), tdiv_nonneg_eq x0, wrap_id (x := x / b) ⟨d0, by omega⟩, wrap_id ⟨by omega, by omega⟩, b1]
def mkC (p : Int × Int) : S56 := ⟨p.1, p.2⟩
def cS (span : Int) (r : List S58) : List S56 := ((cnt span r).map mkC).reverse
theorem rdK_at {l : List S56} {j : Nat} (h : j < l.length) : rd_T56 l (j : Int) = l[j] := by
  unfold rd_T56
  rw [List.getD_eq_getElem?_getD, Int.toNat_natCast, List.getElem?_eq_getElem h]
  rfl
theorem set_last {α : Type} (A : List α) (v w : α) : (A ++ [v]).set A.length w = A ++ [w] := by
  induction A with
  | nil => rfl
  | cons x A ih => simp only [List.cons_append, List.length_cons, List.set_cons_succ, ih]
theorem get_last {α : Type} (A : List α) (v : α) (h : A.length < (A ++ [v]).length) : (A ++ [v])[A.length] = v := by simp
theorem cnt_len (span : Int) : ∀ r : List S58, (cnt span r).length ≤ r.length
  | [] => Nat.le_refl _
  | x :: r => by
    have ih := cnt_len span r
    unfold cnt
    split
    · simp
    · rename_i y o e
      rw [e] at ih
      simp only [List.length_cons] at ih
      split <;> simp only [List.length_cons] <;> omega
theorem cS_len (span : Int) (r : List S58) : (cS span r).length ≤ r.length := by
  unfold cS
  rw [List.length_reverse, List.length_map]
  exact cnt_len span r
/-- One charge more. -/
theorem cS_first (span : Int) (x : S58) : cS span [x] = [⟨bg span x.f0, x.f1⟩] := rfl
theorem cS_step (span : Int) (z : S58) (s : List S58) : ∃ A, cS span (z :: s) = A ++ [⟨bg span z.f0, sB (inF span z.f0) (z :: s)⟩] ∧ ∀ x : S58, cS span (x :: z :: s) = if bg span z.f0 = bg span x.f0 then A ++ [⟨bg span z.f0, sB (inF span z.f0) (z :: s) + x.f1⟩] else A ++ [⟨bg span z.f0, sB (inF span z.f0) (z :: s)⟩] ++ [⟨bg span x.f0, x.f1⟩] := by
  obtain ⟨o, e, _, _⟩ := cnt_head (span := span) z s
  refine ⟨(o.map mkC).reverse, ?_, fun x => ?_⟩
  · unfold cS
    rw [e, List.map_cons, List.reverse_cons]
    rfl
  · have hdef : cnt span (x :: z :: s) = if bg span z.f0 = bg span x.f0 then (bg span z.f0, sB (inF span z.f0) (z :: s) + x.f1) :: o else (bg span x.f0, x.f1) :: cnt span (z :: s) := by
      show (match cnt span (z :: s) with | [] => [(bg span x.f0, x.f1)] | y :: o => if y.1 = bg span x.f0 then (y.1, y.2 + x.f1) :: o else (bg span x.f0, x.f1) :: y :: o) = _
      rw [e]
    unfold cS
    rw [hdef, e]
    by_cases c : bg span z.f0 = bg span x.f0
    · rw [if_pos c, if_pos c, List.map_cons, List.reverse_cons]
      rfl
    · rw [if_neg c, if_neg c, List.map_cons, List.reverse_cons, List.map_cons, List.reverse_cons]
      rfl
theorem count_loop {a b : Int} (hw : okWin a b) (l : List S58) (hl : l.length ≤ 1000) (hu : ∀ x ∈ l, U64 x.f0) (hc : ∀ x ∈ l, 0 ≤ x.f1 ∧ x.f1 ≤ 1000000000) : ∀ (d j k : Nat), j + d = l.length → d + 1 ≤ k → window_Counts.l0 k (cS b (l.take j).reverse) l (l.length : Int) (j : Int) a b = some (cS b l.reverse, 0) := by
  intro d
  induction d with
  | zero =>
    intro j k hj hk
    obtain ⟨k, rfl⟩ : ∃ m, k = m + 1 := ⟨k - 1, by omega⟩
    simp only [window_Counts.l0]
    rw [if_neg (by omega), List.take_of_length_le (by omega)]
  | succ d ih =>
    intro j k hj hk
    obtain ⟨k, rfl⟩ : ∃ m, k = m + 1 := ⟨k - 1, by omega⟩
    have hjl : j < l.length := by omega
    have ht : (l.take (j + 1)).reverse = l[j] :: (l.take j).reverse := by
      rw [List.take_add_one, List.getElem?_eq_getElem hjl, Option.toList_some, List.reverse_append, List.reverse_singleton, List.singleton_append]
    have ih' := ih (j + 1) k (by omega) (by omega)
    rw [ht] at ih'
    have hcx := hc l[j] (List.getElem_mem hjl)
    have hlen : (l.take j).reverse.length ≤ 1000 := by rw [List.length_reverse, List.length_take]; omega
    have hmem : ∀ y ∈ (l.take j).reverse, 0 ≤ y.f1 ∧ y.f1 ≤ 1000000000 := fun y hy => hc y (List.mem_of_mem_take (List.mem_reverse.1 hy))
    generalize (l.take j).reverse = r at ih' hlen hmem ⊢
    simp only [window_Counts.l0]
    rw [if_pos (by omega), if_pos (by omega), if_pos (by omega), rdC_at hjl, (begin_ok hw (hu _ (List.getElem_mem hjl))).1, wj (by omega)]
    simp only [Option.bind_some]
    cases r with
    | nil =>
      have e0 : cS b [] = [] := rfl
      rw [cS_first] at ih'
      have ew : wrap64 (0 + l[j].f1) = l[j].f1 := by unfold wrap64; omega
      have e1 : wrap64 ((([⟨bg b l[j].f0, 0⟩] : List S56).length : Int) - 1) = ((0 : Nat) : Int) := by simp [wrap64]
      rw [e0, List.nil_append, if_pos (by simp), if_pos (by simp), e1, if_pos (by simp), if_pos (by simp), rdK_at (by simp)]
      simp only [List.getElem_cons_zero, Int.toNat_natCast, List.set_cons_zero]
      rw [ew]
      exact ih'
    | cons z s =>
      obtain ⟨A, e, hx⟩ := cS_step b z s
      have hA : (cS b (z :: s)).length ≤ 1000 := Nat.le_trans (cS_len _ _) hlen
      have hbd := sB_bd (p := inF b z.f0) hmem
      rw [hx l[j]] at ih'
      rw [e] at hA ⊢
      generalize sB (inF b z.f0) (z :: s) = v at ih' hbd hA ⊢
      have hA' : A.length + 1 ≤ 1000 := by simpa using hA
      have hb2 : v ≤ 1000000000000 := by omega
      have ew : wrap64 (v + l[j].f1) = v + l[j].f1 := by unfold wrap64; omega
      have ew0 : wrap64 (0 + l[j].f1) = l[j].f1 := by unfold wrap64; omega
      have e1 : wrap64 (((A ++ [(⟨bg b z.f0, v⟩ : S56)]).length : Int) - 1) = (A.length : Int) := by simp [wrap64]; omega
      rw [if_neg (by simp; omega), e1, if_pos (by omega), if_pos (by simp; omega), rdK_at (by simp), get_last]
      by_cases c : bg b z.f0 = bg b l[j].f0
      · rw [if_pos c] at ih' ⊢
        rw [Int.toNat_natCast, set_last]
        simp only
        rw [ew]
        exact ih'
      · rw [if_neg c] at ih' ⊢
        have e2 : wrap64 (((A ++ [(⟨bg b z.f0, v⟩ : S56)] ++ [(⟨bg b l[j].f0, 0⟩ : S56)]).length : Int) - 1) = ((A ++ [(⟨bg b z.f0, v⟩ : S56)]).length : Int) := by simp [wrap64]; omega
        rw [if_pos (by simp; omega), e2, if_pos (by omega), if_pos (by simp), rdK_at (by simp), get_last, Int.toNat_natCast, set_last]
        simp only
        rw [ew0]
        exact ih'
theorem counts_ok {a b : Int} {l : List S58} (hr : ∀ x ∈ l, cR x) (hw : okWin a b) (hl : l.length ≤ 60) (h : okB l 0 = true) (k : Nat) (hk : 70 ≤ k) : window_Counts.f k a b l = some (cS b l.reverse, 0) := by
  unfold window_Counts.f
  rw [wBoth a b l hr k hk, if_pos hw, (chOf_zero hr).2 ⟨hl, h⟩]
  simp only [Option.bind_some, ↓reduceIte]
  exact count_loop hw l (by omega) (fun x hx => (hr x hx).1) (fun x hx => ((okB_spec h).1 x hx).2.2) l.length 0 k (by omega) (by omega)
theorem okA_iff {cap : Int} {same : Int → Int → Bool} {c : List S58} : okA cap same c [] ↔ ∀ x s, (x :: s) <:+ c.reverse → x.f1 + sB (same x.f0) s ≤ cap := by
  constructor
  · intro h x s hx
    exact okA_suffix h (fun x s hx => by have := List.suffix_nil.1 hx; cases this) x s (by rw [List.append_nil]; exact hx)
  · intro h
    exact okA_of fun x s hx => h x s (by rw [List.append_nil] at hx; exact hx)
theorem rBoth (a b : Int) (l : List S58) (hr : ∀ x ∈ l, cR x) (k : Nat) (hk : 130 ≤ k) : spigotref38_both.f k a b l = some (if okWin a b then chOf l else 8) := by
  unfold spigotref38_both.f
  rw [(wCheck a b).2]
  simp only [Option.bind_some]
  by_cases h : okWin a b
  · rw [if_pos h, if_pos rfl, rCharges l hr k hk, if_pos h]
    rfl
  · rw [if_neg h, if_neg (by decide), if_neg h]
theorem within_ok {a b x y : Int} (hw : okWin a b) (hx : U64 x) (hy : U64 y) (h : y ≤ x) : spigotref38_within.f a b y x = some (inS b x y) := by
  unfold spigotref38_within.f
  obtain ⟨x0, x1⟩ := hx
  obtain ⟨y0, y1⟩ := hy
  obtain ⟨_, h1, h2⟩ := hw
  rw [wrap_id (x := x - y) ⟨by omega, by omega⟩, wrap_id (x := b) ⟨by omega, by omega⟩]
  rfl
theorem rcount_loop {a b : Int} (hw : okWin a b) (l : List S58) (hl : l.length ≤ 1000) (hu : ∀ x ∈ l, U64 x.f0) (hc : ∀ x ∈ l, 0 ≤ x.f1 ∧ x.f1 ≤ 1000000000) : ∀ (d j k : Nat), j + d = l.length → d + 1 ≤ k → spigotref38_Counts.l0 k l (cS b (l.take j).reverse) (j : Int) a b = some (cS b l.reverse, 0) := by
  intro d
  induction d with
  | zero =>
    intro j k hj hk
    obtain ⟨k, rfl⟩ : ∃ m, k = m + 1 := ⟨k - 1, by omega⟩
    simp only [spigotref38_Counts.l0]
    rw [if_neg (by omega), List.take_of_length_le (by omega)]
  | succ d ih =>
    intro j k hj hk
    obtain ⟨k, rfl⟩ : ∃ m, k = m + 1 := ⟨k - 1, by omega⟩
    have hjl : j < l.length := by omega
    have ht : ∀ i (h : i < l.length), (l.take (i + 1)).reverse = l[i] :: (l.take i).reverse := by
      intro i h
      rw [List.take_add_one, List.getElem?_eq_getElem h, Option.toList_some, List.reverse_append, List.reverse_singleton, List.singleton_append]
    have ih' := ih (j + 1) k (by omega) (by omega)
    rw [ht j hjl] at ih'
    have hcx := hc l[j] (List.getElem_mem hjl)
    have hbj := (begin_ok hw (hu _ (List.getElem_mem hjl))).2
    have hlen : (l.take j).reverse.length ≤ 1000 := by rw [List.length_reverse, List.length_take]; omega
    have hmem : ∀ y ∈ (l.take j).reverse, 0 ≤ y.f1 ∧ y.f1 ≤ 1000000000 := fun y hy => hc y (List.mem_of_mem_take (List.mem_reverse.1 hy))
    have ew0 : wrap64 (0 + l[j].f1) = l[j].f1 := by unfold wrap64; omega
    simp only [spigotref38_Counts.l0]
    rw [if_pos (by omega), rdC_at hjl, wj (by omega)]
    by_cases j0 : j = 0
    · subst j0
      have e0 : cS b (l.take 0).reverse = [] := rfl
      have e0' : (l.take 0).reverse = [] := rfl
      rw [e0', cS_first] at ih'
      have e1 : wrap64 ((([⟨bg b l[0].f0, 0⟩] : List S56).length : Int) - 1) = ((0 : Nat) : Int) := by simp [wrap64]
      rw [if_pos (by omega), if_pos (by omega), hbj, e0]
      simp only [Option.bind_some]
      rw [List.nil_append, if_pos (by simp), e1, if_pos (by simp), if_pos (by simp), rdK_at (by simp)]
      simp only [List.getElem_cons_zero, Int.toNat_natCast, List.set_cons_zero]
      rw [ew0]
      exact ih'
    · obtain ⟨i, rfl⟩ : ∃ i, j = i + 1 := ⟨j - 1, by omega⟩
      have hil : i < l.length := by omega
      have e3 : wrap64 (((i + 1 : Nat) : Int) - 1) = (i : Int) := by unfold wrap64; omega
      rw [if_neg (by omega), if_pos (by omega), hbj, e3]
      simp only [Option.bind_some]
      rw [if_pos (by omega), if_pos (by omega), rdC_at hil, (begin_ok hw (hu _ (List.getElem_mem hil))).2]
      simp only [Option.bind_some]
      rw [ht i hil] at ih' hlen hmem ⊢
      obtain ⟨A, e, hx⟩ := cS_step b l[i] (l.take i).reverse
      have hA : (cS b (l[i] :: (l.take i).reverse)).length ≤ 1000 := Nat.le_trans (cS_len _ _) hlen
      have hbd := sB_bd (p := inF b l[i].f0) hmem
      rw [hx l[i + 1]] at ih'
      rw [e] at hA ⊢
      generalize sB (inF b l[i].f0) (l[i] :: (l.take i).reverse) = v at ih' hbd hA ⊢
      have hA' : A.length + 1 ≤ 1000 := by simpa using hA
      have hb2 : v ≤ 1000000000000 := by omega
      have ew : wrap64 (v + l[i + 1].f1) = v + l[i + 1].f1 := by unfold wrap64; omega
      by_cases c : bg b l[i].f0 = bg b l[i + 1].f0
      · have e1 : wrap64 (((A ++ [(⟨bg b l[i].f0, v⟩ : S56)]).length : Int) - 1) = (A.length : Int) := by simp [wrap64]; omega
        rw [if_pos c] at ih'
        rw [if_pos c.symm, e1, if_pos (by omega), if_pos (by simp; omega), rdK_at (by simp), get_last, Int.toNat_natCast, set_last]
        simp only
        rw [ew]
        exact ih'
      · rw [if_neg c] at ih'
        have e2 : wrap64 (((A ++ [(⟨bg b l[i].f0, v⟩ : S56)] ++ [(⟨bg b l[i + 1].f0, 0⟩ : S56)]).length : Int) - 1) = ((A ++ [(⟨bg b l[i].f0, v⟩ : S56)]).length : Int) := by simp [wrap64]; omega
        rw [if_neg (fun h => c h.symm)]
        rw [if_pos (by simp; omega), e2, if_pos (by omega), if_pos (by simp), rdK_at (by simp), get_last, Int.toNat_natCast, set_last]
        simp only
        rw [ew0]
        exact ih'
theorem rcounts_ok {a b : Int} {l : List S58} (hr : ∀ x ∈ l, cR x) (k : Nat) (hk : 130 ≤ k) : spigotref38_Counts.f k a b l = window_Counts.f k a b l := by
  unfold spigotref38_Counts.f window_Counts.f
  rw [rBoth a b l hr k (by omega), wBoth a b l hr k (by omega)]
  simp only [Option.bind_some]
  by_cases hw : okWin a b
  · rw [if_pos hw]
    by_cases c : chOf l = 0
    · obtain ⟨h1, h2⟩ := (chOf_zero hr).1 c
      have hu := fun x hx => (hr x hx).1
      have hc := fun x hx => ((okB_spec h2).1 x hx).2.2
      rw [if_pos c, if_pos c]
      exact (rcount_loop hw l (by omega) hu hc l.length 0 k (by omega) (by omega)).trans (count_loop hw l (by omega) hu hc l.length 0 k (by omega) (by omega)).symm
    · rw [if_neg c, if_neg c]
  · rw [if_neg hw]
    rfl
/-! #### the most -/
def rmost (g : S58 → Int) : List S58 → Int → Int
  | [], m => m
  | x :: l, m => rmost g l (mx m (g x))
theorem rmost_le (g : S58 → Int) (K : Int) : ∀ (l : List S58) (m : Int), rmost g l m ≤ K ↔ m ≤ K ∧ ∀ x ∈ l, g x ≤ K
  | [], m => ⟨fun h => ⟨h, fun x hx => (by cases hx)⟩, fun h => h.1⟩
  | x :: l, m => by
    show rmost g l (mx m (g x)) ≤ K ↔ _
    rw [rmost_le g K l, mx_le, List.forall_mem_cons]
    exact ⟨fun h => ⟨h.1.1, h.1.2, h.2⟩, fun h => ⟨⟨h.1, h.2.1⟩, h.2.2⟩⟩
theorem okA_app {cap : Int} {same : Int → Int → Bool} : ∀ {p c acc : List S58}, okA cap same (p ++ c) acc → okA cap same c (p.reverse ++ acc)
  | [], _, _, h => h
  | x :: p, c, acc, h => by
    have := okA_app (p := p) h.2
    rw [List.reverse_cons, List.append_assoc]
    exact this
theorem rmost_eq {b : Int} (hs : 0 < b) {l : List S58} (hb : okB l 0 = true) : rmost (fun x => sF (inR b x.f0) l) l 0 = mostL b l [] 0 := by
  have hp := okB_pos hb
  have hd := okB_desc' hb
  have h0 := mostL_ge b l [] 0
  refine Int.le_antisymm ((rmost_le _ _ l 0).2 ⟨h0, fun x hx => ?_⟩) ((mostL_iff hs l [] 0).2 ⟨?_, okA_iff.2 fun x s hx => ?_⟩)
  · obtain ⟨p, q, e⟩ := List.append_of_mem hx
    have ok := ((mostL_iff (k := mostL b l [] 0) hs l [] 0).1 (Int.le_refl _)).2
    generalize mostL b l [] 0 = K at ok
    rw [e] at ok hd ⊢
    have := okA_app ok
    rw [List.append_nil] at this
    exact ref_term hs q p x hd this
  · exact ((rmost_le (fun x => sF (inR b x.f0) l) _ l 0).1 (Int.le_refl _)).1
  · obtain ⟨t, e⟩ := hx
    have el : l = (s.reverse ++ [x]) ++ t.reverse := by
      have := congrArg List.reverse e
      rw [List.reverse_reverse] at this
      rw [← this]
      simp
    have hm : x ∈ l := by rw [el]; simp
    have h1 := ((rmost_le (fun x => sF (inR b x.f0) l) _ l 0).1 (Int.le_refl _)).2 x hm
    rw [← e] at hd
    have hd' := desc_suffix hd (List.suffix_append _ _)
    have hle : ∀ y ∈ x :: s, y.f0 ≤ x.f0 := fun y hy => by
      rcases List.mem_cons.1 hy with g | g
      · rw [g]; exact Int.le_refl _
      · exact desc_le hd' y g
    have h2 : sF (inR b x.f0) l = sF (inS b x.f0) (x :: s) + sF (inR b x.f0) t.reverse := by
      have h3 : sF (inR b x.f0) l = sF (inR b x.f0) (s.reverse ++ [x]) + sF (inR b x.f0) t.reverse := by
        rw [← sF_append, ← el]
      rw [h3, ← sF_reverse _ (s.reverse ++ [x])]
      congr 1
      rw [List.reverse_append, List.reverse_reverse, List.reverse_singleton, List.singleton_append]
      refine sF_congr fun y hy => ?_
      unfold inR
      rw [decide_eq_true (hle y hy), Bool.true_and]
    have h4 : 0 ≤ sF (inR b x.f0) t.reverse := sF_nonneg fun y hy => hp y (by rw [el]; exact List.mem_append.2 (Or.inr hy))
    rw [← sB_own hs, sB_eq_sF (inS_up b x.f0) hd' hle]
    omega
theorem rmost_l1 {a b : Int} (hw : okWin a b) (l : List S58) (i : Nat) (hi : i < l.length) (hl : l.length ≤ 1000) (hu : ∀ y ∈ l, U64 y.f0) (hc : ∀ y ∈ l, 0 ≤ y.f1 ∧ y.f1 ≤ 1000000000) (m : Int) : ∀ (d j k : Nat) (s : Int), j + d = l.length → d + 1 ≤ k → 0 ≤ s → s ≤ 1000000000 * (j : Int) →
    spigotref38_Most.l1 k l m (i : Int) s (j : Int) a b = spigotref38_Most.l0 (k - d - 1) l (mx m (s + sF (inR b l[i].f0) (l.drop j))) ((i + 1 : Nat) : Int) a b := by
  have hx := hu _ (List.getElem_mem hi)
  intro d
  induction d with
  | zero =>
    intro j k s hj hk h0 h1
    obtain ⟨k, rfl⟩ : ∃ m, k = m + 1 := ⟨k - 1, by omega⟩
    have e : s + sF (inR b l[i].f0) (l.drop j) = s := by
      rw [List.drop_eq_nil_of_le (by omega)]
      show s + 0 = s
      omega
    have ek : k + 1 - 0 - 1 = k := by omega
    simp only [spigotref38_Most.l1]
    rw [if_neg (by omega), e, ek, wj (by omega)]
  | succ d ih =>
    intro j k s hj hk h0 h1
    obtain ⟨k, rfl⟩ : ∃ m, k = m + 1 := ⟨k - 1, by omega⟩
    have hjl : j < l.length := by omega
    have u1 := hu _ (List.getElem_mem hjl)
    obtain ⟨c1, c2⟩ := hc _ (List.getElem_mem hjl)
    have ek : k + 1 - (d + 1) - 1 = k - d - 1 := by omega
    have ew : wrap64 (s + l[j].f1) = s + l[j].f1 := by unfold wrap64; omega
    have es : s + sF (inR b l[i].f0) (l.drop j) = (if inR b l[i].f0 l[j].f0 = true then s + l[j].f1 else s) + sF (inR b l[i].f0) (l.drop (j + 1)) := by
      rw [dropC hjl]
      show s + ((if inR b l[i].f0 l[j].f0 = true then l[j].f1 else 0) + _) = _
      split <;> omega
    simp only [spigotref38_Most.l1]
    rw [ek, es, if_pos (by omega), if_pos (by omega), if_pos (by omega), if_pos (by omega), rdC_at hjl, rdC_at hi, wj (by omega), ew]
    unfold inR
    by_cases g : l[j].f0 ≤ l[i].f0
    · rw [if_pos g, within_ok hw hx u1 g, decide_eq_true g, Bool.true_and]
      simp only [Option.bind_some]
      by_cases c : inS b l[i].f0 l[j].f0 = true
      · rw [if_pos c, if_pos c]
        exact ih (j + 1) k _ (by omega) (by omega) (by omega) (by omega)
      · rw [if_neg c, if_neg c]
        exact ih (j + 1) k _ (by omega) (by omega) (by omega) (by omega)
    · rw [if_neg g, decide_eq_false g, Bool.false_and, if_neg (by decide)]
      exact ih (j + 1) k _ (by omega) (by omega) (by omega) (by omega)
theorem rmost_l0 {a b : Int} (hw : okWin a b) (l : List S58) (hl : l.length ≤ 60) (hu : ∀ y ∈ l, U64 y.f0) (hc : ∀ y ∈ l, 0 ≤ y.f1 ∧ y.f1 ≤ 1000000000) : ∀ (d i k : Nat) (m : Int), i + d = l.length → d * 62 + 70 ≤ k →
    spigotref38_Most.l0 k l m (i : Int) a b = some (rmost (fun x => sF (inR b x.f0) l) (l.drop i) m, 0) := by
  intro d
  induction d with
  | zero =>
    intro i k m hj hk
    obtain ⟨k, rfl⟩ : ∃ m, k = m + 1 := ⟨k - 1, by omega⟩
    simp only [spigotref38_Most.l0]
    rw [if_neg (by omega), List.drop_eq_nil_of_le (by omega)]
    rfl
  | succ d ih =>
    intro i k m hj hk
    obtain ⟨k, rfl⟩ : ∃ m, k = m + 1 := ⟨k - 1, by omega⟩
    have hil : i < l.length := by omega
    have e := rmost_l1 hw l i hil (by omega) hu hc m l.length 0 k 0 (by omega) (by omega) (by omega) (by omega)
    rw [List.drop_zero, Int.zero_add] at e
    simp only [spigotref38_Most.l0]
    rw [if_pos (by omega)]
    refine e.trans ?_
    rw [ih (i + 1) _ _ (by omega) (by omega), dropC hil]
    rfl
theorem rmost_ok {a b : Int} {l : List S58} (hr : ∀ x ∈ l, cR x) (k : Nat) (hk : 5000 ≤ k) : spigotref38_Most.f k a b l = window_Most.f k a b l := by
  unfold spigotref38_Most.f window_Most.f
  rw [rBoth a b l hr k (by omega), wBoth a b l hr k (by omega)]
  simp only [Option.bind_some]
  by_cases hw : okWin a b
  · rw [if_pos hw]
    by_cases c : chOf l = 0
    · obtain ⟨h1, h2⟩ := (chOf_zero hr).1 c
      rw [if_pos c, if_pos c, if_pos (okW_of hw h1 h2), ← rmost_eq (by have := hw.2.1; omega) h2]
      exact rmost_l0 hw l h1 (fun x hx => (hr x hx).1) (fun x hx => ((okB_spec h2).1 x hx).2.2) l.length 0 k 0 (by omega) (by omega)
    · rw [if_neg c, if_neg c]
  · rw [if_neg hw]
    rfl
theorem sameK_self (x : List S56) (hl : x.length ≤ 1000) (k : Nat) (hk : x.length + 1 ≤ k) : spigotref38_SameCounts.f k x x = some true := by
  unfold spigotref38_SameCounts.f
  rw [if_pos rfl]
  have key : ∀ (d j k : Nat), j + d = x.length → d + 1 ≤ k → spigotref38_SameCounts.l0 k x x (j : Int) = some true := by
    intro d
    induction d with
    | zero =>
      intro j k hj hk
      obtain ⟨k, rfl⟩ : ∃ m, k = m + 1 := ⟨k - 1, by omega⟩
      simp only [spigotref38_SameCounts.l0]
      rw [if_neg (by omega)]
    | succ d ih =>
      intro j k hj hk
      obtain ⟨k, rfl⟩ : ∃ m, k = m + 1 := ⟨k - 1, by omega⟩
      simp only [spigotref38_SameCounts.l0]
      rw [if_pos (by omega), if_pos (by omega), if_pos (by omega), if_neg (by simp), wj (by omega)]
      exact ih (j + 1) k (by omega) (by omega)
  exact key x.length 0 k (by omega) hk
theorem counts_any (a b : Int) (l : List S58) (hl : l.length ≤ 100) (hr : ∀ x ∈ l, cR x) (k : Nat) (hk : 130 ≤ k) : ∃ o e, window_Counts.f k a b l = some (o, e) ∧ o.length ≤ 100 := by
  by_cases hw : okWin a b
  · by_cases c : chOf l = 0
    · obtain ⟨h1, h2⟩ := (chOf_zero hr).1 c
      have := cS_len b l.reverse
      rw [List.length_reverse] at this
      exact ⟨_, _, counts_ok hr hw h1 h2 k (by omega), by omega⟩
    · unfold window_Counts.f
      rw [wBoth a b l hr k (by omega), if_pos hw]
      simp only [Option.bind_some]
      rw [if_neg c]
      exact ⟨_, _, rfl, by simp⟩
  · unfold window_Counts.f
    rw [wBoth a b l hr k (by omega), if_neg hw]
    exact ⟨_, _, rfl, by simp⟩
theorem most_any (a b : Int) (l : List S58) (hr : ∀ x ∈ l, cR x) (k : Nat) (hk : 130 ≤ k) : ∃ o e, window_Most.f k a b l = some (o, e) := by
  by_cases hw : okWin a b
  · by_cases c : chOf l = 0
    · obtain ⟨h1, h2⟩ := (chOf_zero hr).1 c
      exact ⟨_, _, most_ok hr hw h1 h2 k (by omega)⟩
    · unfold window_Most.f
      rw [wBoth a b l hr k (by omega), if_pos hw]
      simp only [Option.bind_some]
      rw [if_neg c]
      exact ⟨_, _, rfl⟩
  · unfold window_Most.f
    rw [wBoth a b l hr k (by omega), if_neg hw]
    exact ⟨_, _, rfl⟩
theorem WindowCounts_pure (a b : Int) (l : List S58) (_ : I64 a) (_ : I64 b) (_ : l.length ≤ maxLen) (hr : ∀ x ∈ l, U64 x.f0 ∧ I64 x.f1) : ∃ k, spigotlaw38_WindowCounts.f k a b l = some true := by
  refine ⟨5000, ?_⟩
  obtain ⟨g, eg, hgl⟩ := great38 l
  unfold spigotlaw38_WindowCounts.f
  rw [eg]
  simp only [Option.bind_some]
  by_cases hg : g = true
  · rw [if_pos hg]
  · have hl := hgl (Bool.eq_false_iff.2 hg)
    obtain ⟨o, e, ho, hol⟩ := counts_any a b l hl hr 5000 (by omega)
    obtain ⟨p, f, hp⟩ := most_any a b l hr 5000 (by omega)
    rw [if_neg hg, rcounts_ok hr 5000 (by omega), rmost_ok hr 5000 (by omega), ho, hp]
    simp only [Option.bind_some, ↓reduceIte]
    rw [sameK_self o (by omega) 5000 (by omega)]
    simp only [Option.bind_some, ↓reduceIte, beq_self_eq_true]
end Go.Proofs.Ytjjmnafhaneflaa.X
