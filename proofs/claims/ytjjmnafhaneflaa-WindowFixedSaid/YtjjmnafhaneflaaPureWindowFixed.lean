/- WindowFixed, and what it needs. -/
import Derived.Test.YtjjmnafhaneflaaX0
import Derived.Test.YtjjmnafhaneflaaX4
import Derived.Test.YtjjmnafhaneflaaX5
import Derived.Test.YtjjmnafhaneflaaX6
import Derived.Test.YtjjmnafhaneflaaX7
import Derived.Test.YtjjmnafhaneflaaX8
import Derived.Test.YtjjmnafhaneflaaX9
import Derived.Test.YtjjmnafhaneflaaX10
import Derived.Test.YtjjmnafhaneflaaX11
import Derived.Test.YtjjmnafhaneflaaX13
import Derived.Test.YtjjmnafhaneflaaX14
import Derived.Test.YtjjmnafhaneflaaX18
import Derived.Test.YtjjmnafhaneflaaX19
import Derived.Test.YtjjmnafhaneflaaX23
import Derived.Test.YtjjmnafhaneflaaX25
import Derived.Test.YtjjmnafhaneflaaX27
import Derived.Test.YtjjmnafhaneflaaMath
namespace Go.Proofs.Ytjjmnafhaneflaa.X
open Go.RowKit Go.Proofs.YtjjmnafhaneflaaW.PrintWords Go.Proofs.YtjjmnafhaneflaaW.PrintLast Go.Proofs.YtjjmnafhaneflaaW.PrintMore
set_option linter.unusedVariables false
set_option linter.unusedSimpArgs false

theorem wj {j : Nat} (h : j < 9223372036854775807) : wrap64 ((j : Int) + 1) = ((j + 1 : Nat) : Int) := by unfold wrap64; omega
def okA (cap : Int) (same : Int → Int → Bool) : List S58 → List S58 → Prop
  | [], _ => True
  | x :: c, acc => x.f1 + sB (same x.f0) acc ≤ cap ∧ okA cap same c (x :: acc)
theorem adm_ok (cap : Int) (same : Int → Int → Bool) : ∀ (c acc : List S58), okA cap same (adm cap same c acc) acc
  | [], _ => trivial
  | x :: c, acc => by
    unfold adm
    by_cases h : x.f1 + sB (same x.f0) acc ≤ cap
    · rw [if_pos h]
      exact ⟨h, adm_ok cap same c (x :: acc)⟩
    · rw [if_neg h]
      exact adm_ok cap same c acc
theorem adm_len (cap : Int) (same : Int → Int → Bool) : ∀ (c acc : List S58), (adm cap same c acc).length ≤ c.length
  | [], _ => Nat.le_refl _
  | x :: c, acc => by
    unfold adm
    by_cases h : x.f1 + sB (same x.f0) acc ≤ cap
    · rw [if_pos h]
      have := adm_len cap same c (x :: acc)
      simp only [List.length_cons]
      omega
    · rw [if_neg h]
      have := adm_len cap same c acc
      simp only [List.length_cons]
      omega
theorem adm_all (cap : Int) (same : Int → Int → Bool) : ∀ (c acc : List S58), okA cap same c acc ↔ adm cap same c acc = c
  | [], _ => ⟨fun _ => rfl, fun _ => trivial⟩
  | x :: c, acc => by
    unfold adm okA
    by_cases h : x.f1 + sB (same x.f0) acc ≤ cap
    · rw [if_pos h, adm_all cap same c (x :: acc)]
      exact ⟨fun g => by rw [g.2], fun g => ⟨h, (List.cons.inj g).2⟩⟩
    · rw [if_neg h]
      refine ⟨fun g => absurd g.1 h, fun g => ?_⟩
      have := adm_len cap same c acc
      rw [g] at this
      simp only [List.length_cons] at this
      omega
theorem adm_sub (cap : Int) (same : Int → Int → Bool) : ∀ (c acc : List S58), (adm cap same c acc).Sublist c
  | [], _ => List.Sublist.refl _
  | x :: c, acc => by
    unfold adm
    by_cases h : x.f1 + sB (same x.f0) acc ≤ cap
    · rw [if_pos h]
      exact (adm_sub cap same c (x :: acc)).cons_cons x
    · rw [if_neg h]
      exact (adm_sub cap same c acc).cons x
/-! #### ticks in order -/
/-- The newest first: no tick is greater than the one ahead of it. -/
def desc : List S58 → Prop
  | [] => True
  | [_] => True
  | x :: y :: r => y.f0 ≤ x.f0 ∧ desc (y :: r)
theorem desc_tail {x : S58} {r : List S58} (h : desc (x :: r)) : desc r := by
  cases r with
  | nil => trivial
  | cons y r => exact h.2
theorem desc_le : ∀ {r : List S58} {x : S58}, desc (x :: r) → ∀ y ∈ r, y.f0 ≤ x.f0
  | [], _, _ => fun y hy => by cases hy
  | z :: r, x, h => fun y hy => by
    rcases List.mem_cons.1 hy with e | hy
    · rw [e]
      exact h.1
    · exact Int.le_trans (desc_le h.2 y hy) h.1
theorem desc_cons {x : S58} : ∀ {r : List S58}, desc r → (∀ y ∈ r, y.f0 ≤ x.f0) → desc (x :: r)
  | [], _, _ => trivial
  | z :: r, h, g => ⟨g z List.mem_cons_self, h⟩
/-- The costs are not below 0. -/
def posC (l : List S58) : Prop := ∀ x ∈ l, 0 ≤ x.f1
theorem sB_nonneg {p : Int → Bool} : ∀ {r : List S58}, posC r → 0 ≤ sB p r
  | [], _ => Int.le_refl _
  | x :: r, h => by
    unfold sB
    have h1 := h x List.mem_cons_self
    have h2 := sB_nonneg (p := p) (r := r) fun y hy => h y (List.mem_cons_of_mem _ hy)
    split <;> omega
theorem bg_spec {span t : Int} (hs : 0 < span) : bg span t = t / span * span ∧ bg span t ≤ t ∧ t < bg span t + span := by
  have h := div_rest (n := t) hs
  unfold bg
  omega
theorem bg_mono {span t u : Int} (hs : 0 < span) (h : t ≤ u) : bg span t ≤ bg span u := by
  rw [(bg_spec hs).1, (bg_spec (t := u) hs).1]
  exact Int.mul_le_mul_of_nonneg_right (div_mono hs h) (by omega)
/-- Two windows whose begins differ lie at least a span apart. -/
theorem bg_apart {span t u : Int} (hs : 0 < span) (h : t ≤ u) (hne : bg span t ≠ bg span u) : bg span t + span ≤ bg span u := by
  have e1 := (bg_spec (t := t) hs).1
  have e2 := (bg_spec (t := u) hs).1
  have hm := bg_mono hs h
  rw [e1, e2] at hne hm ⊢
  have hlt : t / span < u / span := by
    rcases Int.lt_or_le (t / span) (u / span) with g | g
    · exact g
    · have := div_mono hs h
      have e : t / span = u / span := by omega
      rw [e] at hne
      exact absurd rfl hne
  have := Int.mul_le_mul_of_nonneg_right (by omega : t / span + 1 ≤ u / span) (by omega : 0 ≤ span)
  rw [Int.add_mul, Int.one_mul] at this
  exact this
/-- The sliding window of x has at most what the fixed one of the newest has, behind those of x's own. -/
theorem slide_in_fixed {span x : Int} (hs : 0 < span) : ∀ {r : List S58}, desc r → posC r → (∀ y ∈ r, y.f0 ≤ x) → ∀ y s, r = y :: s → (bg span y.f0 = bg span x ∨ bg span y.f0 + span ≤ bg span x) →
    bg span y.f0 + span ≤ bg span x → sB (inS span x) r ≤ sB (inF span y.f0) r := by
  intro r hd hp hx y s e _ hb
  have key : ∀ (q : List S58), desc q → posC q → (∀ z ∈ q, z.f0 ≤ y.f0) → sB (inS span x) q ≤ sB (inF span y.f0) q := by
    intro q
    induction q with
    | nil => intro _ _ _; exact Int.le_refl _
    | cons z q ih =>
      intro hd hp hz
      have i := ih (desc_tail hd) (fun w hw => hp w (List.mem_cons_of_mem _ hw)) fun w hw => hz w (List.mem_cons_of_mem _ hw)
      have zz := hz z List.mem_cons_self
      have p0 := hp z List.mem_cons_self
      have n0 := sB_nonneg (p := inF span y.f0) (r := q) fun w hw => hp w (List.mem_cons_of_mem _ hw)
      unfold sB
      by_cases c : inS span x z.f0 = true
      · have hz2 : inF span y.f0 z.f0 = true := by
          unfold inS at c
          unfold inF
          rw [decide_eq_true_iff] at c ⊢
          obtain ⟨_, b1, b2⟩ := bg_spec (t := x) hs
          obtain ⟨_, b3, b4⟩ := bg_spec (t := y.f0) hs
          refine Classical.byContradiction fun hne => ?_
          have := bg_apart hs zz (fun h => hne h.symm)
          obtain ⟨_, b5, b6⟩ := bg_spec (t := z.f0) hs
          omega
        rw [if_pos c, if_pos hz2]
        omega
      · rw [if_neg c]
        split <;> omega
  subst e
  refine key _ hd hp fun z hz => ?_
  rcases List.mem_cons.1 hz with g | g
  · rw [g]
    exact Int.le_refl _
  · exact desc_le hd z g
/-- What fixed windows admit: in each sliding window at most twice as much. -/
theorem fixed_slide {cap span : Int} (hs : 0 < span) (hc : 0 ≤ cap) : ∀ {r : List S58}, desc r → posC r → (∀ x s, (x :: s) <:+ r → x.f1 + sB (inF span x.f0) s ≤ cap) → ∀ x s, r = x :: s → sB (inS span x.f0) r ≤ 2 * cap := by
  intro r hd hp hk x s e
  -- along the own fixed window of x, then the one before
  have key : ∀ (q : List S58), desc q → posC q → (∀ z ∈ q, z.f0 ≤ x.f0) → (∀ z u, (z :: u) <:+ q → z.f1 + sB (inF span z.f0) u ≤ cap) → sB (inS span x.f0) q ≤ sB (inF span x.f0) q + cap := by
    intro q
    induction q with
    | nil => intro _ _ _ _; unfold sB; omega
    | cons z q ih =>
      intro hd hp hz hk
      have hpq : posC q := fun w hw => hp w (List.mem_cons_of_mem _ hw)
      have n0 := sB_nonneg (p := inF span x.f0) hpq
      have i := ih (desc_tail hd) hpq (fun w hw => hz w (List.mem_cons_of_mem _ hw)) fun w u h => hk w u (h.trans (List.suffix_cons _ _))
      by_cases g : inF span x.f0 z.f0 = true
      · have zs : inS span x.f0 z.f0 = true ∨ ¬ inS span x.f0 z.f0 = true := by
          by_cases q : inS span x.f0 z.f0 = true
          · exact Or.inl q
          · exact Or.inr q
        have p0 := hp z List.mem_cons_self
        rcases zs with q1 | q1
        · show (if inS span x.f0 z.f0 = true then z.f1 + sB (inS span x.f0) q else 0) ≤ (if inF span x.f0 z.f0 = true then z.f1 + sB (inF span x.f0) q else 0) + cap
          rw [if_pos q1, if_pos g]
          omega
        · show (if inS span x.f0 z.f0 = true then z.f1 + sB (inS span x.f0) q else 0) ≤ (if inF span x.f0 z.f0 = true then z.f1 + sB (inF span x.f0) q else 0) + cap
          rw [if_neg q1, if_pos g]
          omega
      · have hzx := hz z List.mem_cons_self
        have hne : bg span z.f0 ≠ bg span x.f0 := fun h => g (by unfold inF; rw [decide_eq_true_iff]; exact h.symm)
        have hap := bg_apart hs hzx hne
        have h1 := slide_in_fixed (x := x.f0) hs hd hp (fun w hw => hz w hw) z q rfl (Or.inr hap) hap
        have h2 := hk z q (List.suffix_refl _)
        have h3 : sB (inF span z.f0) (z :: q) = z.f1 + sB (inF span z.f0) q := by
          show (if inF span z.f0 z.f0 = true then _ else _) = _
          rw [if_pos (by unfold inF; rw [decide_eq_true_iff])]
        have h4 : sB (inF span x.f0) (z :: q) = 0 := by
          show (if inF span x.f0 z.f0 = true then _ else _) = _
          rw [if_neg g]
        omega
  subst e
  have h1 := key _ hd hp (fun z hz => by
    rcases List.mem_cons.1 hz with g | g
    · rw [g]; exact Int.le_refl _
    · exact desc_le hd z g) hk
  have h2 := hk x s (List.suffix_refl _)
  have h3 : sB (inF span x.f0) (x :: s) = x.f1 + sB (inF span x.f0) s := by
    show (if inF span x.f0 x.f0 = true then _ else _) = _
    rw [if_pos (by unfold inF; rw [decide_eq_true_iff])]
  omega
/-- What was admitted, step by step, as a list with the newest first. -/
theorem okA_suffix {cap : Int} {same : Int → Int → Bool} : ∀ {c acc : List S58}, okA cap same c acc → (∀ x s, (x :: s) <:+ acc → x.f1 + sB (same x.f0) s ≤ cap) → ∀ x s, (x :: s) <:+ (c.reverse ++ acc) → x.f1 + sB (same x.f0) s ≤ cap
  | [], acc, _, h => h
  | y :: c, acc, ⟨h1, h2⟩, h => by
    intro x s hxs
    rw [List.reverse_cons, List.append_assoc] at hxs
    refine okA_suffix h2 ?_ x s hxs
    intro z u hz
    rcases List.suffix_cons_iff.1 hz with g | g
    · obtain ⟨e1, e2⟩ := List.cons.inj g
      subst e1
      subst e2
      exact h1
    · exact h z u g
theorem sB_own {span : Int} (hs : 0 < span) (x : S58) (acc : List S58) : sB (inS span x.f0) (x :: acc) = x.f1 + sB (inS span x.f0) acc := by
  show (if inS span x.f0 x.f0 = true then _ else _) = _
  rw [if_pos (by unfold inS; rw [decide_eq_true_iff]; omega)]
theorem mx_le {a b k : Int} : mx a b ≤ k ↔ a ≤ k ∧ b ≤ k := by unfold mx; split <;> omega
theorem mostL_iff {span k : Int} (hs : 0 < span) : ∀ (c acc : List S58) (m : Int), mostL span c acc m ≤ k ↔ m ≤ k ∧ okA k (inS span) c acc
  | [], _, m => ⟨fun h => ⟨h, trivial⟩, fun h => h.1⟩
  | x :: c, acc, m => by
    unfold mostL okA
    rw [mostL_iff hs c (x :: acc), mx_le, sB_own hs]
    exact ⟨fun ⟨⟨a, b⟩, d⟩ => ⟨a, b, d⟩, fun ⟨a, b, d⟩ => ⟨⟨a, b⟩, d⟩⟩
theorem okA_of {cap : Int} {same : Int → Int → Bool} : ∀ {c acc : List S58}, (∀ x s, (x :: s) <:+ (c.reverse ++ acc) → x.f1 + sB (same x.f0) s ≤ cap) → okA cap same c acc
  | [], _, _ => trivial
  | y :: c, acc, h => by
    refine ⟨h y acc ?_, okA_of (c := c) (acc := y :: acc) fun x s hs => h x s ?_⟩
    · rw [List.reverse_cons, List.append_assoc]
      exact List.suffix_append _ _
    · rw [List.reverse_cons, List.append_assoc]
      exact hs
theorem desc_suffix : ∀ {r q : List S58}, desc r → q <:+ r → desc q
  | [], q, _, h => by
    rw [List.suffix_nil.1 h]
    trivial
  | x :: r, q, hd, h => by
    rcases List.suffix_cons_iff.1 h with g | g
    · rw [g]
      exact hd
    · exact desc_suffix (desc_tail hd) g
/-- What fixed windows admit has at most twice as much in a sliding one. -/
theorem fixed_most {cap span : Int} (hs : 0 < span) (hc : 0 ≤ cap) {a : List S58} (hd : desc a.reverse) (hp : posC a) (h : okA cap (inF span) a []) : mostL span a [] 0 ≤ 2 * cap := by
  rw [mostL_iff hs]
  refine ⟨by omega, okA_of fun x s hx => ?_⟩
  have hk := okA_suffix h (fun x s hx => by have := List.suffix_nil.1 hx; cases this)
  have hpr : posC (a.reverse ++ []) := fun y hy => hp y (by simpa using hy)
  have e := fixed_slide (r := x :: s) hs hc (desc_suffix (by simpa using hd) hx) (fun y hy => hpr y (hx.subset hy)) (fun z u hz => hk z u (hz.trans hx)) x s rfl
  rw [sB_own hs] at e
  exact e
def cR (x : S58) : Prop := U64 x.f0 ∧ I64 x.f1
theorem rdC_at {l : List S58} {j : Nat} (h : j < l.length) : rd_T58 l (j : Int) = l[j] := by
  unfold rd_T58
  rw [List.getD_eq_getElem?_getD, Int.toNat_natCast, List.getElem?_eq_getElem h]
  rfl
theorem dropC {l : List S58} {j : Nat} (h : j < l.length) : l.drop j = l[j] :: l.drop (j + 1) := List.drop_eq_getElem_cons h
abbrev okWin (a b : Int) : Prop := (1 ≤ a ∧ a ≤ 1000000000) ∧ 1 ≤ b ∧ b ≤ 1000000000
theorem wCheck (a b : Int) : window_Check.f a b = some (if okWin a b then 0 else 8) ∧ spigotref38_Check.f a b = some (if okWin a b then 0 else 8) := by
  have h : window_Check.f a b = some (if okWin a b then 0 else 8) := by
    unfold window_Check.f
    by_cases h1 : a < 1
    · rw [if_pos h1, if_neg (by unfold okWin; omega)]
    · rw [if_neg h1]
      by_cases h2 : a > 1000000000
      · rw [if_pos h2, if_neg (by unfold okWin; omega)]
      · rw [if_neg h2]
        by_cases h3 : b < 1
        · rw [if_pos h3, if_neg (by unfold okWin; omega)]
        · rw [if_neg h3]
          by_cases h4 : b > 1000000000
          · rw [if_pos h4, if_neg (by unfold okWin; omega)]
          · rw [if_neg h4, if_pos (by unfold okWin; omega)]
  exact ⟨h, h⟩
/-! #### charges -/
def badC (x : S58) : Bool := decide (x.f1 < 0) || decide (x.f1 > 1000000000)
def okU : Int → List S58 → Bool
  | _, [] => true
  | t, x :: l => decide (t ≤ x.f0) && okU x.f0 l
def chOf (l : List S58) : Int := if 60 < l.length then 4 else if l.any badC = true then 8 else if okU 0 l = true then 0 else 32
theorem okB_eq : ∀ (l : List S58) (t : Int), (∀ x ∈ l, cR x) → okB l t = (okU t l && !(l.any badC))
  | [], _, _ => rfl
  | x :: l, t, h => by
    have h1 := h x List.mem_cons_self
    have ih := okB_eq l x.f0 fun y hy => h y (List.mem_cons_of_mem _ hy)
    obtain ⟨⟨u0, u1⟩, _⟩ := h1
    unfold okB okU
    rw [ih, List.any_cons, decide_eq_true u1, Bool.true_and]
    unfold badC
    by_cases a : t ≤ x.f0
    · by_cases b : 0 ≤ x.f1
      · by_cases c : x.f1 ≤ 1000000000
        · rw [decide_eq_true a, decide_eq_true b, decide_eq_true c, decide_eq_false (show ¬ x.f1 < 0 by omega), decide_eq_false (show ¬ x.f1 > 1000000000 by omega)]
          simp
        · rw [decide_eq_false c, decide_eq_true (show x.f1 > 1000000000 by omega)]
          simp
      · rw [decide_eq_false b, decide_eq_true (show x.f1 < 0 by omega)]
        simp
    · rw [decide_eq_false a]
      simp
theorem chOf_zero {l : List S58} (h : ∀ x ∈ l, cR x) : chOf l = 0 ↔ l.length ≤ 60 ∧ okB l 0 = true := by
  rw [okB_eq l 0 h, Bool.and_eq_true, Bool.not_eq_true']
  unfold chOf
  by_cases a : 60 < l.length
  · rw [if_pos a]
    exact ⟨fun h => (by cases h), fun h => by omega⟩
  · rw [if_neg a]
    by_cases b : l.any badC = true
    · rw [if_pos b, b]
      exact ⟨fun h => (by cases h), fun h => by cases h.2.2⟩
    · rw [if_neg b]
      by_cases c : okU 0 l = true
      · rw [if_pos c]
        exact ⟨fun _ => ⟨by omega, c, Bool.eq_false_iff.2 b⟩, fun _ => rfl⟩
      · rw [if_neg c]
        exact ⟨fun h => (by cases h), fun h => absurd h.2.1 c⟩
theorem okU_of {x : S58} {l : List S58} (h : cR x) : okU 0 (x :: l) = okU x.f0 l := by
  show (decide (0 ≤ x.f0) && _) = _
  rw [decide_eq_true h.1.1, Bool.true_and]
theorem find_ok (l : List S58) (hl : l.length ≤ 1000) : ∀ (d j k : Nat), j + d = l.length → d + 1 ≤ k → ∃ i, slices_IndexFunc_api_Charge_c40.l0 k l (l.length : Int) (j : Int) = some i ∧ decide (i ≥ 0) = (l.drop j).any badC := by
  intro d
  induction d with
  | zero =>
    intro j k hj hk
    obtain ⟨k, rfl⟩ : ∃ m, k = m + 1 := ⟨k - 1, by omega⟩
    simp only [slices_IndexFunc_api_Charge_c40.l0]
    rw [if_neg (by omega), List.drop_eq_nil_of_le (by omega)]
    exact ⟨_, rfl, rfl⟩
  | succ d ih =>
    intro j k hj hk
    obtain ⟨k, rfl⟩ : ∃ m, k = m + 1 := ⟨k - 1, by omega⟩
    have hjl : j < l.length := by omega
    simp only [slices_IndexFunc_api_Charge_c40.l0]
    rw [if_pos (by omega), if_pos (by omega), if_pos (by omega), rdC_at hjl, dropC hjl, List.any_cons, wj (by omega)]
    have e : window_Charges_1.f l[j].f0 l[j].f1 = some (badC l[j]) := by
      unfold window_Charges_1.f badC
      by_cases a : l[j].f1 < 0
      · rw [if_pos a, decide_eq_true a, Bool.true_or]
      · rw [if_neg a, decide_eq_false a, Bool.false_or]
    rw [e]
    simp only [Option.bind_some]
    by_cases c : badC l[j] = true
    · rw [if_pos c, c, Bool.true_or]
      exact ⟨_, rfl, decide_eq_true (by omega)⟩
    · rw [if_neg c, Bool.eq_false_iff.2 c, Bool.false_or]
      exact ih (j + 1) k (by omega) (by omega)
theorem has_bad (l : List S58) (hl : l.length ≤ 1000) (a : Int) (k : Nat) (hk : l.length + 1 ≤ k) : slices_ContainsFunc_api_Charge_c40.f k l a = some (l.any badC) := by
  obtain ⟨i, e1, e2⟩ := find_ok l hl l.length 0 k (by omega) hk
  unfold slices_ContainsFunc_api_Charge_c40.f slices_IndexFunc_api_Charge_c40.f
  have e1' : slices_IndexFunc_api_Charge_c40.l0 k l (l.length : Int) 0 = some i := e1
  rw [e1']
  simp only [Option.bind_some]
  rw [e2]
  rfl
theorem sorted_w (l : List S58) (hl : l.length ≤ 1000) : ∀ (d j k : Nat), j + 1 + d = l.length → d + 1 ≤ k → ∀ (h : j < l.length), window_Charges.l0 k l (l.length : Int) ((j + 1 : Nat) : Int) = some (if okU l[j].f0 (l.drop (j + 1)) = true then 0 else 32) := by
  intro d
  induction d with
  | zero =>
    intro j k hj hk h
    obtain ⟨k, rfl⟩ : ∃ m, k = m + 1 := ⟨k - 1, by omega⟩
    simp only [window_Charges.l0]
    rw [if_neg (by omega), List.drop_eq_nil_of_le (by omega)]
    rfl
  | succ d ih =>
    intro j k hj hk h
    obtain ⟨k, rfl⟩ : ∃ m, k = m + 1 := ⟨k - 1, by omega⟩
    have hjl : j + 1 < l.length := by omega
    have e1 : wrap64 (((j + 1 : Nat) : Int) - 1) = (j : Int) := by unfold wrap64; omega
    simp only [window_Charges.l0]
    rw [if_pos (by omega), if_pos (by omega), if_pos (by omega), if_pos (by omega), e1, if_pos (by omega), if_pos (by omega), rdC_at hjl, rdC_at h, wj (by omega), dropC hjl]
    unfold okU
    by_cases c : l[j + 1].f0 < l[j].f0
    · rw [if_pos c, decide_eq_false (by omega), Bool.false_and, if_neg (by decide)]
    · rw [if_neg c, decide_eq_true (by omega), Bool.true_and]
      exact ih (j + 1) k (by omega) (by omega) hjl
theorem sorted_r (l : List S58) (hl : l.length ≤ 1000) : ∀ (d j k : Nat), j + 1 + d = l.length → d + 1 ≤ k → ∀ (h : j < l.length), spigotref38_Charges.l1 k l ((j + 1 : Nat) : Int) = some (if okU l[j].f0 (l.drop (j + 1)) = true then 0 else 32) := by
  intro d
  induction d with
  | zero =>
    intro j k hj hk h
    obtain ⟨k, rfl⟩ : ∃ m, k = m + 1 := ⟨k - 1, by omega⟩
    simp only [spigotref38_Charges.l1]
    rw [if_neg (by omega), List.drop_eq_nil_of_le (by omega)]
    rfl
  | succ d ih =>
    intro j k hj hk h
    obtain ⟨k, rfl⟩ : ∃ m, k = m + 1 := ⟨k - 1, by omega⟩
    have hjl : j + 1 < l.length := by omega
    have e1 : wrap64 (((j + 1 : Nat) : Int) - 1) = (j : Int) := by unfold wrap64; omega
    simp only [spigotref38_Charges.l1]
    rw [if_pos (by omega), if_pos (by omega), e1, if_pos (by omega), if_pos (by omega), rdC_at hjl, rdC_at h, wj (by omega), dropC hjl]
    unfold okU
    by_cases c : l[j + 1].f0 < l[j].f0
    · rw [if_pos c, decide_eq_false (by omega), Bool.false_and, if_neg (by decide)]
    · rw [if_neg c, decide_eq_true (by omega), Bool.true_and]
      exact ih (j + 1) k (by omega) (by omega) hjl
theorem wCharges (l : List S58) (hr : ∀ x ∈ l, cR x) (k : Nat) (hk : 70 ≤ k) : window_Charges.f k l = some (chOf l) := by
  unfold window_Charges.f chOf
  by_cases a : 60 < l.length
  · rw [if_pos (by omega), if_pos a]
  · rw [if_neg (by omega), if_neg a, has_bad l (by omega) 0 k (by omega)]
    simp only [Option.bind_some]
    by_cases b : l.any badC = true
    · rw [if_pos b, if_pos b]
    · rw [if_neg b, if_neg b]
      cases l with
      | nil =>
        obtain ⟨k, rfl⟩ : ∃ m, k = m + 1 := ⟨k - 1, by omega⟩
        simp only [window_Charges.l0]
        rw [if_neg (by simp)]
        rfl
      | cons x l =>
        obtain ⟨k, rfl⟩ : ∃ m, k = m + 1 := ⟨k - 1, by omega⟩
        rw [okU_of (hr x List.mem_cons_self)]
        have h := sorted_w (x :: l) (by omega) l.length 0 k (by simp; omega) (by simp at a; omega) (by simp)
        simp only [window_Charges.l0]
        rw [if_pos (by simp), if_neg (by omega), show wrap64 (0 + 1) = ((0 + 1 : Nat) : Int) by unfold wrap64; omega]
        exact h
theorem rcost_ok (l : List S58) (hl : l.length ≤ 1000) : ∀ (d j k : Nat), j + d = l.length → d + 1 ≤ k → ((l.drop j).any badC = true → spigotref38_Charges.l0 k l (j : Int) = some 8) ∧ ((l.drop j).any badC = false → spigotref38_Charges.l0 k l (j : Int) = spigotref38_Charges.l1 (k - d - 1) l 1) := by
  intro d
  induction d with
  | zero =>
    intro j k hj hk
    obtain ⟨k, rfl⟩ : ∃ m, k = m + 1 := ⟨k - 1, by omega⟩
    simp only [spigotref38_Charges.l0]
    rw [if_neg (by omega), List.drop_eq_nil_of_le (by omega)]
    exact ⟨fun h => (by cases h), fun _ => rfl⟩
  | succ d ih =>
    intro j k hj hk
    obtain ⟨k, rfl⟩ : ∃ m, k = m + 1 := ⟨k - 1, by omega⟩
    have hjl : j < l.length := by omega
    have i1 := ih (j + 1) k (by omega) (by omega)
    have ek : k + 1 - (d + 1) - 1 = k - d - 1 := by omega
    simp only [spigotref38_Charges.l0]
    rw [if_pos (by omega), if_pos (by omega), rdC_at hjl, dropC hjl, List.any_cons, wj (by omega), ek]
    unfold badC
    by_cases a : l[j].f1 < 0
    · rw [if_pos a, decide_eq_true a, Bool.true_or, Bool.true_or]
      exact ⟨fun _ => rfl, fun h => by cases h⟩
    · rw [if_neg a, decide_eq_false a, Bool.false_or]
      by_cases b : l[j].f1 > 1000000000
      · rw [if_pos b, decide_eq_true b, Bool.true_or]
        exact ⟨fun _ => rfl, fun h => by cases h⟩
      · rw [if_neg b, decide_eq_false b, Bool.false_or]
        exact i1
theorem rCharges (l : List S58) (hr : ∀ x ∈ l, cR x) (k : Nat) (hk : 130 ≤ k) : spigotref38_Charges.f k l = some (chOf l) := by
  unfold spigotref38_Charges.f chOf
  by_cases a : 60 < l.length
  · rw [if_pos (by omega), if_pos a]
  · rw [if_neg (by omega), if_neg a]
    obtain ⟨r1, r2⟩ := rcost_ok l (by omega) l.length 0 k (by omega) (by omega)
    rw [List.drop_zero] at r1 r2
    by_cases b : l.any badC = true
    · rw [if_pos b]
      exact r1 b
    · rw [if_neg b]
      have h := r2 (Bool.eq_false_iff.2 b)
      refine h.trans ?_
      obtain ⟨m, hm⟩ : ∃ m, k - l.length - 1 = m + 1 := ⟨k - l.length - 2, by omega⟩
      cases l with
      | nil =>
        rw [hm]
        simp only [spigotref38_Charges.l1]
        rw [if_neg (by simp)]
        rfl
      | cons x l =>
        rw [okU_of (hr x List.mem_cons_self)]
        exact sorted_r (x :: l) (by omega) l.length 0 _ (by simp; omega) (by simp at a ⊢; omega) (by simp)
theorem wBoth (a b : Int) (l : List S58) (hr : ∀ x ∈ l, cR x) (k : Nat) (hk : 70 ≤ k) : window_both.f k a b l = some (if okWin a b then chOf l else 8) := by
  unfold window_both.f
  rw [(wCheck a b).1]
  simp only [Option.bind_some]
  by_cases h : okWin a b
  · rw [if_pos h, if_pos rfl, wCharges l hr k hk, if_pos h]
    rfl
  · rw [if_neg h, if_neg (by decide), if_neg h]
/-! #### same lists -/
theorem same_ok (x y : List S58) (hl : x.length ≤ 1000) (k : Nat) (hk : x.length + 1 ≤ k) : ∃ b, spigotref38_Same.f k x y = some b ∧ (b = true ↔ x = y) := by
  unfold spigotref38_Same.f
  by_cases e : (x.length : Int) = (y.length : Int)
  · rw [if_pos e]
    have el : x.length = y.length := by omega
    have key : ∀ (d j k : Nat), j + d = x.length → d + 1 ≤ k → ∃ b, spigotref38_Same.l0 k x y (j : Int) = some b ∧ (b = true ↔ x.drop j = y.drop j) := by
      intro d
      induction d with
      | zero =>
        intro j k hj hk
        obtain ⟨k, rfl⟩ : ∃ m, k = m + 1 := ⟨k - 1, by omega⟩
        simp only [spigotref38_Same.l0]
        rw [if_neg (by omega), List.drop_eq_nil_of_le (by omega), List.drop_eq_nil_of_le (by omega)]
        exact ⟨true, rfl, fun _ => rfl, fun _ => rfl⟩
      | succ d ih =>
        intro j k hj hk
        obtain ⟨k, rfl⟩ : ∃ m, k = m + 1 := ⟨k - 1, by omega⟩
        have h1 : j < x.length := by omega
        have h2 : j < y.length := by omega
        simp only [spigotref38_Same.l0]
        rw [if_pos (by omega), if_pos (by omega), if_pos (by omega), rdC_at h1, rdC_at h2, dropC h1, dropC h2, wj (by omega)]
        by_cases c : x[j] = y[j]
        · rw [if_neg (by rw [c]; simp)]
          obtain ⟨b, e1, e2⟩ := ih (j + 1) k (by omega) (by omega)
          refine ⟨b, e1, ?_⟩
          rw [e2, c]
          exact ⟨fun h => by rw [h], fun h => (List.cons.inj h).2⟩
        · have hc : (!(x[j].f0 == y[j].f0) || !(x[j].f1 == y[j].f1)) = true := by
            rw [Bool.or_eq_true, Bool.not_eq_true', Bool.not_eq_true', beq_eq_false_iff_ne, beq_eq_false_iff_ne]
            by_cases c0 : x[j].f0 = y[j].f0
            · refine Or.inr fun c1 => c ?_
              cases hx : x[j]
              cases hy : y[j]
              rw [hx, hy] at c0 c1
              simp only at c0 c1
              rw [c0, c1]
            · exact Or.inl c0
          rw [if_pos hc]
          exact ⟨false, rfl, fun h => (by cases h), fun h => absurd (List.cons.inj h).1 c⟩
    obtain ⟨b, e1, e2⟩ := key x.length 0 k (by omega) hk
    rw [List.drop_zero, List.drop_zero] at e2
    exact ⟨b, e1, e2⟩
  · rw [if_neg e]
    exact ⟨false, rfl, fun h => (by cases h), fun h => absurd (by rw [h]) e⟩
theorem same_self (x : List S58) (hl : x.length ≤ 1000) (k : Nat) (hk : x.length + 1 ≤ k) : spigotref38_Same.f k x x = some true := by
  obtain ⟨b, e1, e2⟩ := same_ok x x hl k hk
  rw [e1, e2.2 rfl]
/-! #### parts of what is sorted -/
theorem okB_le : ∀ {l : List S58} {t u : Int}, t ≤ u → okB l u = true → okB l t = true
  | [], _, _, _, _ => rfl
  | x :: l, t, u, h, g => by
    simp only [okB, Bool.and_eq_true, decide_eq_true_eq] at g ⊢
    exact ⟨by omega, g.2⟩
theorem okB_sub {o l : List S58} (h : o.Sublist l) : ∀ {t : Int}, okB l t = true → okB o t = true := by
  induction h with
  | slnil => exact fun h => h
  | cons x _ ih =>
    intro t g
    simp only [okB, Bool.and_eq_true, decide_eq_true_eq] at g
    exact ih (okB_le g.1 g.2.2.2.2)
  | cons_cons x _ ih =>
    intro t g
    simp only [okB, Bool.and_eq_true, decide_eq_true_eq] at g ⊢
    exact ⟨g.1, g.2.1, g.2.2.1, g.2.2.2.1, ih g.2.2.2.2⟩
theorem okB_pos {l : List S58} {t : Int} (h : okB l t = true) : posC l := fun x hx => ((okB_spec h).1 x hx).2.2.1
theorem okB_desc : ∀ {l : List S58} {t : Int} {r : List S58}, okB l t = true → desc r → (∀ y ∈ r, y.f0 ≤ t) → desc (l.reverse ++ r)
  | [], _, _, _, hr, _ => hr
  | x :: l, t, r, h, hr, hy => by
    simp only [okB, Bool.and_eq_true, decide_eq_true_eq] at h
    rw [List.reverse_cons, List.append_assoc, List.singleton_append]
    refine okB_desc (t := x.f0) h.2.2.2.2 (desc_cons hr fun y h' => Int.le_trans (hy y h') h.1) fun y h' => ?_
    rcases List.mem_cons.1 h' with e | e
    · rw [e]; exact Int.le_refl _
    · exact Int.le_trans (hy y e) h.1
theorem okB_desc' {l : List S58} {t : Int} (h : okB l t = true) : desc l.reverse := by
  have := okB_desc (r := []) h trivial (fun y hy => by cases hy)
  rwa [List.append_nil] at this
theorem okW_of {a b : Int} {l : List S58} (hw : okWin a b) (hl : l.length ≤ 60) (h : okB l 0 = true) : okW a b l = true := by
  unfold okW
  obtain ⟨⟨h1, h2⟩, h3, h4⟩ := hw
  rw [decide_eq_true h1, decide_eq_true h2, decide_eq_true h3, decide_eq_true h4, decide_eq_true (show l.length ≤ 1000 by omega), h]
  rfl
theorem most_ok {a b : Int} {l : List S58} (hr : ∀ x ∈ l, cR x) (hw : okWin a b) (hl : l.length ≤ 60) (h : okB l 0 = true) (k : Nat) (hk : 70 ≤ k) : window_Most.f k a b l = some (mostL b l [] 0, 0) := by
  unfold window_Most.f
  rw [wBoth a b l hr k hk, if_pos hw, (chOf_zero hr).2 ⟨hl, h⟩]
  simp only [Option.bind_some]
  rw [if_pos (by simp), if_pos (okW_of hw hl h)]
set_option maxRecDepth 100000 in
theorem alive38_ : spigotlaw38_alive.f 100 = some true := by kernel_rfl
theorem alive38 (k : Nat) (hk : 100 ≤ k) : spigotlaw38_alive.f k = some true := up_ (fun k => spigotlaw38_alive.mono k) alive38_ k hk
theorem great38 (l : List S58) : ∃ b, spigotref38_Great.f l = some b ∧ (b = false → l.length ≤ 100) := by
  unfold spigotref38_Great.f
  by_cases a : (l.length : Int) > 25
  · rw [if_pos a]
    by_cases b : (l.length : Int) ≤ 60
    · rw [if_pos b]
      exact ⟨true, rfl, fun h => by cases h⟩
    · rw [if_neg b]
      exact ⟨_, rfl, fun h => by have := of_decide_eq_false h; omega⟩
  · rw [if_neg a]
    exact ⟨_, rfl, fun h => by have := of_decide_eq_false h; omega⟩
/-- Counts, the newest first. -/
def cnt (span : Int) : List S58 → List (Int × Int)
  | [] => []
  | x :: r => match cnt span r with
    | [] => [(bg span x.f0, x.f1)]
    | y :: o => if y.1 = bg span x.f0 then (y.1, y.2 + x.f1) :: o else (bg span x.f0, x.f1) :: y :: o
theorem sB_inF_congr {span x y : Int} (h : bg span x = bg span y) (r : List S58) : sB (inF span x) r = sB (inF span y) r := by
  have : inF span x = inF span y := by
    funext t
    unfold inF
    rw [h]
  rw [this]
theorem sB_inF_own {span : Int} (x : S58) (acc : List S58) : sB (inF span x.f0) (x :: acc) = x.f1 + sB (inF span x.f0) acc := by
  show (if inF span x.f0 x.f0 = true then _ else _) = _
  rw [if_pos (by unfold inF; rw [decide_eq_true_iff])]
/-- The newest count: its window's begin, and the sum in it. -/
theorem cnt_head {span : Int} : ∀ (x : S58) (r : List S58), ∃ o, cnt span (x :: r) = (bg span x.f0, sB (inF span x.f0) (x :: r)) :: o ∧
    (∀ y s, r = y :: s → (bg span y.f0 = bg span x.f0 → (cnt span r).tail = o) ∧ (bg span y.f0 ≠ bg span x.f0 → cnt span r = o)) ∧ (r = [] → o = []) := by
  intro x r
  induction r generalizing x with
  | nil =>
    refine ⟨[], ?_, fun y s h => (by cases h), fun _ => rfl⟩
    show [(bg span x.f0, x.f1)] = _
    rw [sB_inF_own]
    show _ = [(_, x.f1 + 0)]
    rw [Int.add_zero]
  | cons y r ih =>
    obtain ⟨o, e, _, _⟩ := ih y
    by_cases c : bg span y.f0 = bg span x.f0
    · refine ⟨o, ?_, fun z s h => ?_, fun h => (by cases h)⟩
      · show (match cnt span (y :: r) with | [] => [(bg span x.f0, x.f1)] | y :: o => if y.1 = bg span x.f0 then (y.1, y.2 + x.f1) :: o else (bg span x.f0, x.f1) :: y :: o) = _
        rw [e]
        simp only
        rw [if_pos c, sB_inF_own x, sB_inF_congr c, c, Int.add_comm]
      · obtain ⟨e1, e2⟩ := List.cons.inj h
        subst e1
        exact ⟨fun _ => by rw [e]; rfl, fun g => absurd c g⟩
    · refine ⟨cnt span (y :: r), ?_, fun z s h => ?_, fun h => (by cases h)⟩
      · show (match cnt span (y :: r) with | [] => [(bg span x.f0, x.f1)] | y :: o => if y.1 = bg span x.f0 then (y.1, y.2 + x.f1) :: o else (bg span x.f0, x.f1) :: y :: o) = _
        rw [e]
        simp only
        rw [if_neg c, sB_inF_own x]
        have : sB (inF span x.f0) (y :: r) = 0 := by
          show (if inF span x.f0 y.f0 = true then _ else _) = _
          rw [if_neg (by unfold inF; rw [decide_eq_true_iff]; exact fun h => c h.symm)]
        rw [this, Int.add_zero]
      · obtain ⟨e1, e2⟩ := List.cons.inj h
        subst e1
        exact ⟨fun g => absurd g c, fun _ => rfl⟩
/-- All counts are at most cap exactly if each charge could be admitted. -/
theorem cnt_few {cap span : Int} : ∀ (r : List S58), posC r → ((∀ y ∈ cnt span r, y.2 ≤ cap) ↔ ∀ x s, (x :: s) <:+ r → x.f1 + sB (inF span x.f0) s ≤ cap)
  | [], _ => ⟨fun _ x s h => (by have := List.suffix_nil.1 h; cases this), fun _ y hy => (by cases hy)⟩
  | x :: r, hp => by
    have hpr : posC r := fun y hy => hp y (List.mem_cons_of_mem _ hy)
    have ih := cnt_few (cap := cap) (span := span) r hpr
    obtain ⟨o, e, h1, h2⟩ := cnt_head (span := span) x r
    have split : (∀ z s, (z :: s) <:+ x :: r → z.f1 + sB (inF span z.f0) s ≤ cap) ↔ x.f1 + sB (inF span x.f0) r ≤ cap ∧ ∀ z s, (z :: s) <:+ r → z.f1 + sB (inF span z.f0) s ≤ cap := by
      constructor
      · exact fun h => ⟨h x r (List.suffix_refl _), fun z s hz => h z s (hz.trans (List.suffix_cons _ _))⟩
      · rintro ⟨a, b⟩ z s hz
        rcases List.suffix_cons_iff.1 hz with g | g
        · obtain ⟨e1, e2⟩ := List.cons.inj g
          subst e1
          subst e2
          exact a
        · exact b z s g
    rw [split, ← ih, e, List.forall_mem_cons, sB_inF_own]
    refine and_congr_right fun hx => ?_
    cases r with
    | nil => rw [h2 rfl]; exact ⟨fun _ y hy => (by cases hy), fun _ y hy => (by cases hy)⟩
    | cons y s =>
      obtain ⟨g1, g2⟩ := h1 y s rfl
      by_cases c : bg span y.f0 = bg span x.f0
      · have ho := g1 c
        obtain ⟨o', e', _, _⟩ := cnt_head (span := span) y s
        rw [e'] at ho ⊢
        rw [List.tail_cons] at ho
        subst ho
        rw [List.forall_mem_cons]
        have p0 := hp x List.mem_cons_self
        have : sB (inF span y.f0) (y :: s) ≤ cap := by rw [sB_inF_congr c]; omega
        exact ⟨fun h => ⟨this, h⟩, fun h => h.2⟩
      · rw [g2 c]
/-- The begins of counts are begins, and fall, the newest first. -/
theorem cnt_begins {span : Int} (hs : 0 < span) : ∀ (r : List S58), desc r → (∀ y ∈ cnt span r, y.1 % span = 0) ∧ (cnt span r).Pairwise (fun a b => b.1 < a.1) ∧ (∀ x s, r = x :: s → ∀ y ∈ cnt span r, y.1 ≤ bg span x.f0)
  | [], _ => ⟨fun y hy => (by cases hy), List.Pairwise.nil, fun x s h => (by cases h)⟩
  | x :: r, hd => by
    obtain ⟨i1, i2, i3⟩ := cnt_begins hs r (desc_tail hd)
    have hb : ∀ t, bg span t % span = 0 := fun t => by rw [(bg_spec hs).1]; exact Int.mul_emod_left _ _
    cases r with
    | nil =>
      show (∀ y ∈ [(bg span x.f0, x.f1)], y.1 % span = 0) ∧ List.Pairwise _ [(bg span x.f0, x.f1)] ∧ _
      refine ⟨fun y hy => by rw [List.mem_singleton.1 hy]; exact hb _, List.pairwise_singleton _ _, fun z s h y hy => ?_⟩
      obtain ⟨e1, _⟩ := List.cons.inj h
      rw [List.mem_singleton.1 hy, e1]
      exact Int.le_refl _
    | cons z s =>
      have hzx := hd.1
      have hm := bg_mono hs hzx
      have hle := i3 z s rfl
      obtain ⟨o, e, _, _⟩ := cnt_head (span := span) z s
      have hdef : cnt span (x :: z :: s) = if bg span z.f0 = bg span x.f0 then (bg span z.f0, sB (inF span z.f0) (z :: s) + x.f1) :: o else (bg span x.f0, x.f1) :: cnt span (z :: s) := by
        show (match cnt span (z :: s) with | [] => [(bg span x.f0, x.f1)] | y :: o => if y.1 = bg span x.f0 then (y.1, y.2 + x.f1) :: o else (bg span x.f0, x.f1) :: y :: o) = _
        rw [e]
      rw [e] at i1 i2 hle
      rw [hdef]
      by_cases c : bg span z.f0 = bg span x.f0
      · rw [if_pos c]
        rw [List.forall_mem_cons] at i1 hle
        refine ⟨?_, ?_, ?_⟩
        · rw [List.forall_mem_cons]
          exact i1
        · rw [List.pairwise_cons] at i2 ⊢
          exact i2
        · intro x' s' h
          obtain ⟨e1, _⟩ := List.cons.inj h
          subst e1
          rw [List.forall_mem_cons]
          exact ⟨Int.le_of_eq c, fun y hy => by rw [← c]; exact hle.2 y hy⟩
      · rw [if_neg c, e]
        refine ⟨?_, ?_, ?_⟩
        · rw [List.forall_mem_cons]
          exact ⟨hb _, i1⟩
        · rw [List.pairwise_cons]
          refine ⟨fun y hy => ?_, i2⟩
          have := hle y hy
          show y.1 < bg span x.f0
          omega
        · intro x' s' h
          obtain ⟨e1, _⟩ := List.cons.inj h
          subst e1
          rw [List.forall_mem_cons]
          exact ⟨Int.le_refl _, fun y hy => Int.le_trans (hle y hy) hm⟩
/-! #### the reference's most -/
theorem begin_ok {a b x : Int} (hw : okWin a b) (hx : U64 x) : window_begin.f a b x = some (bg b x) ∧ spigotref38_Begin.f a b x = some (bg b x) := by
  obtain ⟨_, h1, h2⟩ := hw
  obtain ⟨x0, x1⟩ := hx
  obtain ⟨b1, b2, b3⟩ := bg_spec (span := b) (t := x) (by omega)
  have d0 : 0 ≤ x / b := Int.ediv_nonneg x0 (by omega)
  have d1 : x / b ≤ x := Int.ediv_le_self b x0
  have d2 : 0 ≤ x / b * b := Int.mul_nonneg d0 (by omega)
  have ew : IntKind.u64.wrap b = b := wrap_id ⟨by omega, by omega⟩
  constructor
  · unfold window_begin.f
    rw [ew, if_neg (by omega), tmod_nonneg_eq x0]
    have : bg b x = x - x % b := rfl
    rw [← this, wrap_id ⟨by omega, by omega⟩]
  · unfold spigotref38_Begin.f
    rw [ew, if_neg (by omega), tdiv_nonneg_eq x0, wrap_id (x := x / b) ⟨d0, by omega⟩, wrap_id ⟨by omega, by omega⟩, b1]
theorem fixed_ok {a b : Int} {l : List S58} (hr : ∀ x ∈ l, cR x) (hw : okWin a b) (hl : l.length ≤ 60) (h : okB l 0 = true) (k : Nat) (hk : 70 ≤ k) : window_Fixed.f k a b l = some (adm a (inF b) l [], 0) := by
  unfold window_Fixed.f
  rw [wBoth a b l hr k hk, if_pos hw, (chOf_zero hr).2 ⟨hl, h⟩]
  simp only [Option.bind_some]
  rw [if_pos (by simp), if_pos (okW_of hw hl h)]
def mkC (p : Int × Int) : S56 := ⟨p.1, p.2⟩
def cS (span : Int) (r : List S58) : List S56 := ((cnt span r).map mkC).reverse
theorem rdK_at {l : List S56} {j : Nat} (h : j < l.length) : rd_T56 l (j : Int) = l[j] := by
  unfold rd_T56
  rw [List.getD_eq_getElem?_getD, Int.toNat_natCast, List.getElem?_eq_getElem h]
  rfl
theorem set_last {α : Type} (A : List α) (v w : α) : (A ++ [v]).set A.length w = A ++ [w] := by
  induction A with
  | nil => rfl
  | cons x A ih => simp only [List.cons_append, List.length_cons, List.set_cons_succ, ih]
theorem get_last {α : Type} (A : List α) (v : α) (h : A.length < (A ++ [v]).length) : (A ++ [v])[A.length] = v := by simp
theorem cnt_len (span : Int) : ∀ r : List S58, (cnt span r).length ≤ r.length
  | [] => Nat.le_refl _
  | x :: r => by
    have ih := cnt_len span r
    unfold cnt
    split
    · simp
    · rename_i y o e
      rw [e] at ih
      simp only [List.length_cons] at ih
      split <;> simp only [List.length_cons] <;> omega
theorem cS_len (span : Int) (r : List S58) : (cS span r).length ≤ r.length := by
  unfold cS
  rw [List.length_reverse, List.length_map]
  exact cnt_len span r
/-- One charge more. -/
theorem cS_first (span : Int) (x : S58) : cS span [x] = [⟨bg span x.f0, x.f1⟩] := rfl
theorem cS_step (span : Int) (z : S58) (s : List S58) : ∃ A, cS span (z :: s) = A ++ [⟨bg span z.f0, sB (inF span z.f0) (z :: s)⟩] ∧ ∀ x : S58, cS span (x :: z :: s) = if bg span z.f0 = bg span x.f0 then A ++ [⟨bg span z.f0, sB (inF span z.f0) (z :: s) + x.f1⟩] else A ++ [⟨bg span z.f0, sB (inF span z.f0) (z :: s)⟩] ++ [⟨bg span x.f0, x.f1⟩] := by
  obtain ⟨o, e, _, _⟩ := cnt_head (span := span) z s
  refine ⟨(o.map mkC).reverse, ?_, fun x => ?_⟩
  · unfold cS
    rw [e, List.map_cons, List.reverse_cons]
    rfl
  · have hdef : cnt span (x :: z :: s) = if bg span z.f0 = bg span x.f0 then (bg span z.f0, sB (inF span z.f0) (z :: s) + x.f1) :: o else (bg span x.f0, x.f1) :: cnt span (z :: s) := by
      show (match cnt span (z :: s) with | [] => [(bg span x.f0, x.f1)] | y :: o => if y.1 = bg span x.f0 then (y.1, y.2 + x.f1) :: o else (bg span x.f0, x.f1) :: y :: o) = _
      rw [e]
    unfold cS
    rw [hdef, e]
    by_cases c : bg span z.f0 = bg span x.f0
    · rw [if_pos c, if_pos c, List.map_cons, List.reverse_cons]
      rfl
    · rw [if_neg c, if_neg c, List.map_cons, List.reverse_cons, List.map_cons, List.reverse_cons]
      rfl
theorem count_loop {a b : Int} (hw : okWin a b) (l : List S58) (hl : l.length ≤ 1000) (hu : ∀ x ∈ l, U64 x.f0) (hc : ∀ x ∈ l, 0 ≤ x.f1 ∧ x.f1 ≤ 1000000000) : ∀ (d j k : Nat), j + d = l.length → d + 1 ≤ k → window_Counts.l0 k (cS b (l.take j).reverse) l (l.length : Int) (j : Int) a b = some (cS b l.reverse, 0) := by
  intro d
  induction d with
  | zero =>
    intro j k hj hk
    obtain ⟨k, rfl⟩ : ∃ m, k = m + 1 := ⟨k - 1, by omega⟩
    simp only [window_Counts.l0]
    rw [if_neg (by omega), List.take_of_length_le (by omega)]
  | succ d ih =>
    intro j k hj hk
    obtain ⟨k, rfl⟩ : ∃ m, k = m + 1 := ⟨k - 1, by omega⟩
    have hjl : j < l.length := by omega
    have ht : (l.take (j + 1)).reverse = l[j] :: (l.take j).reverse := by
      rw [List.take_add_one, List.getElem?_eq_getElem hjl, Option.toList_some, List.reverse_append, List.reverse_singleton, List.singleton_append]
    have ih' := ih (j + 1) k (by omega) (by omega)
    rw [ht] at ih'
    have hcx := hc l[j] (List.getElem_mem hjl)
    have hlen : (l.take j).reverse.length ≤ 1000 := by rw [List.length_reverse, List.length_take]; omega
    have hmem : ∀ y ∈ (l.take j).reverse, 0 ≤ y.f1 ∧ y.f1 ≤ 1000000000 := fun y hy => hc y (List.mem_of_mem_take (List.mem_reverse.1 hy))
    generalize (l.take j).reverse = r at ih' hlen hmem ⊢
    simp only [window_Counts.l0]
    rw [if_pos (by omega), if_pos (by omega), if_pos (by omega), rdC_at hjl, (begin_ok hw (hu _ (List.getElem_mem hjl))).1, wj (by omega)]
    simp only [Option.bind_some]
    cases r with
    | nil =>
      have e0 : cS b [] = [] := rfl
      rw [cS_first] at ih'
      have ew : wrap64 (0 + l[j].f1) = l[j].f1 := by unfold wrap64; omega
      have e1 : wrap64 ((([⟨bg b l[j].f0, 0⟩] : List S56).length : Int) - 1) = ((0 : Nat) : Int) := by simp [wrap64]
      rw [e0, List.nil_append, if_pos (by simp), if_pos (by simp), e1, if_pos (by simp), if_pos (by simp), rdK_at (by simp)]
      simp only [List.getElem_cons_zero, Int.toNat_natCast, List.set_cons_zero]
      rw [ew]
      exact ih'
    | cons z s =>
      obtain ⟨A, e, hx⟩ := cS_step b z s
      have hA : (cS b (z :: s)).length ≤ 1000 := Nat.le_trans (cS_len _ _) hlen
      have hbd := sB_bd (p := inF b z.f0) hmem
      rw [hx l[j]] at ih'
      rw [e] at hA ⊢
      generalize sB (inF b z.f0) (z :: s) = v at ih' hbd hA ⊢
      have hA' : A.length + 1 ≤ 1000 := by simpa using hA
      have hb2 : v ≤ 1000000000000 := by omega
      have ew : wrap64 (v + l[j].f1) = v + l[j].f1 := by unfold wrap64; omega
      have ew0 : wrap64 (0 + l[j].f1) = l[j].f1 := by unfold wrap64; omega
      have e1 : wrap64 (((A ++ [(⟨bg b z.f0, v⟩ : S56)]).length : Int) - 1) = (A.length : Int) := by simp [wrap64]; omega
      rw [if_neg (by simp; omega), e1, if_pos (by omega), if_pos (by simp; omega), rdK_at (by simp), get_last]
      by_cases c : bg b z.f0 = bg b l[j].f0
      · rw [if_pos c] at ih' ⊢
        rw [Int.toNat_natCast, set_last]
        simp only
        rw [ew]
        exact ih'
      · rw [if_neg c] at ih' ⊢
        have e2 : wrap64 (((A ++ [(⟨bg b z.f0, v⟩ : S56)] ++ [(⟨bg b l[j].f0, 0⟩ : S56)]).length : Int) - 1) = ((A ++ [(⟨bg b z.f0, v⟩ : S56)]).length : Int) := by simp [wrap64]; omega
        rw [if_pos (by simp; omega), e2, if_pos (by omega), if_pos (by simp), rdK_at (by simp), get_last, Int.toNat_natCast, set_last]
        simp only
        rw [ew0]
        exact ih'
theorem counts_ok {a b : Int} {l : List S58} (hr : ∀ x ∈ l, cR x) (hw : okWin a b) (hl : l.length ≤ 60) (h : okB l 0 = true) (k : Nat) (hk : 70 ≤ k) : window_Counts.f k a b l = some (cS b l.reverse, 0) := by
  unfold window_Counts.f
  rw [wBoth a b l hr k hk, if_pos hw, (chOf_zero hr).2 ⟨hl, h⟩]
  simp only [Option.bind_some, ↓reduceIte]
  exact count_loop hw l (by omega) (fun x hx => (hr x hx).1) (fun x hx => ((okB_spec h).1 x hx).2.2) l.length 0 k (by omega) (by omega)
theorem okA_iff {cap : Int} {same : Int → Int → Bool} {c : List S58} : okA cap same c [] ↔ ∀ x s, (x :: s) <:+ c.reverse → x.f1 + sB (same x.f0) s ≤ cap := by
  constructor
  · intro h x s hx
    exact okA_suffix h (fun x s hx => by have := List.suffix_nil.1 hx; cases this) x s (by rw [List.append_nil]; exact hx)
  · intro h
    exact okA_of fun x s hx => h x s (by rw [List.append_nil] at hx; exact hx)
theorem cS_few {a b : Int} {l : List S58} (hp : posC l) : (∀ y ∈ cS b l.reverse, y.f1 ≤ a) ↔ okA a (inF b) l [] := by
  have h := cnt_few (cap := a) (span := b) l.reverse (fun y hy => hp y (List.mem_reverse.1 hy))
  rw [okA_iff, ← h]
  unfold cS
  constructor
  · intro g y hy
    exact g (mkC y) (List.mem_reverse.2 (List.mem_map.2 ⟨y, hy, rfl⟩))
  · intro g y hy
    obtain ⟨z, hz, rfl⟩ := List.mem_map.1 (List.mem_reverse.1 hy)
    exact g z hz
theorem cS_begins {b : Int} (hb : 0 < b) {l : List S58} (hd : desc l.reverse) : (∀ y ∈ cS b l.reverse, Int.tmod y.f0 b = 0) ∧ (cS b l.reverse).Pairwise (fun x y => x.f0 < y.f0) := by
  obtain ⟨h1, h2, _⟩ := cnt_begins (span := b) hb l.reverse hd
  unfold cS
  constructor
  · intro y hy
    obtain ⟨z, hz, rfl⟩ := List.mem_map.1 (List.mem_reverse.1 hy)
    exact Int.tmod_eq_zero_of_dvd (Int.dvd_of_emod_eq_zero (h1 z hz))
  · rw [List.pairwise_reverse, List.pairwise_map]
    exact h2
theorem fx_l1 {a b : Int} (l o : List S58) (D : List S56) (hD : D.length ≤ 1000) (ho : o.length ≤ 60) (H : (∀ y ∈ D, y.f1 ≤ a) ↔ o = l) : ∀ (d j k : Nat) (f : Bool), j + d = D.length → d + 70 ≤ k → (f = true ↔ ∀ y ∈ D.take j, y.f1 ≤ a) → spigotlaw38_WindowFixed.l1 k l true o D f (j : Int) a b = some true := by
  intro d
  induction d with
  | zero =>
    intro j k f hj hk hf
    obtain ⟨k, rfl⟩ : ∃ m, k = m + 1 := ⟨k - 1, by omega⟩
    rw [List.take_of_length_le (by omega), H] at hf
    obtain ⟨t, e1, e2⟩ := same_ok o l (by omega) k (by omega)
    simp only [spigotlaw38_WindowFixed.l1]
    rw [if_neg (by omega), e1]
    simp only [Option.bind_some, ↓reduceIte]
    rw [← e2] at hf
    rw [Bool.eq_iff_iff.2 hf]
    simp
  | succ d ih =>
    intro j k f hj hk hf
    obtain ⟨k, rfl⟩ : ∃ m, k = m + 1 := ⟨k - 1, by omega⟩
    have hjl : j < D.length := by omega
    have ht : (∀ y ∈ D.take (j + 1), y.f1 ≤ a) ↔ (∀ y ∈ D.take j, y.f1 ≤ a) ∧ D[j].f1 ≤ a := by
      rw [List.take_add_one, List.getElem?_eq_getElem hjl, Option.toList_some]
      constructor
      · exact fun h => ⟨fun y hy => h y (List.mem_append.2 (Or.inl hy)), h _ (List.mem_append.2 (Or.inr (List.mem_singleton.2 rfl)))⟩
      · rintro ⟨h1, h2⟩ y hy
        rcases List.mem_append.1 hy with g | g
        · exact h1 y g
        · rw [List.mem_singleton.1 g]; exact h2
    simp only [spigotlaw38_WindowFixed.l1]
    rw [if_pos (by omega), wj (by omega)]
    by_cases c : f = true
    · rw [if_pos c, if_pos (by omega), rdK_at hjl]
      refine ih (j + 1) k _ (by omega) (by omega) ?_
      rw [decide_eq_true_iff, ht]
      exact ⟨fun h => ⟨hf.1 c, h⟩, fun h => h.2⟩
    · rw [if_neg c]
      refine ih (j + 1) k _ (by omega) (by omega) ?_
      rw [ht]
      exact ⟨fun h => (by cases h), fun h => absurd (hf.2 h.1) c⟩
theorem fx_l0 {a b : Int} (hw : okWin a b) (l o : List S58) (C D : List S56) (hC : C.length ≤ 60) (hD : D.length ≤ 60) (ho : o.length ≤ 60) (H : (∀ y ∈ D, y.f1 ≤ a) ↔ o = l) (h1 : ∀ y ∈ C, y.f1 ≤ a) (h2 : ∀ y ∈ C, Int.tmod y.f0 b = 0) (h3 : C.Pairwise fun x y => x.f0 < y.f0) : ∀ (d j k : Nat), j + d = C.length → d + 132 ≤ k → spigotlaw38_WindowFixed.l0 k l true o C D true (j : Int) a b = some true := by
  have ew : IntKind.u64.wrap b = b := wrap_id ⟨by have := hw.2.1; omega, by have := hw.2.2; omega⟩
  have hb := hw.2.1
  intro d
  induction d with
  | zero =>
    intro j k hj hk
    obtain ⟨k, rfl⟩ : ∃ m, k = m + 1 := ⟨k - 1, by omega⟩
    simp only [spigotlaw38_WindowFixed.l0]
    rw [if_neg (by omega)]
    exact fx_l1 l o D (by omega) ho H D.length 0 k true (by omega) (by omega) (by simp)
  | succ d ih =>
    intro j k hj hk
    obtain ⟨k, rfl⟩ : ∃ m, k = m + 1 := ⟨k - 1, by omega⟩
    have hjl : j < C.length := by omega
    have g1 := h1 _ (List.getElem_mem hjl)
    have g2 := h2 _ (List.getElem_mem hjl)
    simp only [spigotlaw38_WindowFixed.l0]
    rw [if_pos (by omega), if_pos (by omega), rdK_at hjl, ew, if_neg (by omega), if_neg (by omega), if_pos g2, wj (by omega)]
    by_cases j0 : j = 0
    · subst j0
      rw [if_neg (by omega)]
      exact ih 1 k (by omega) (by omega)
    · obtain ⟨i, rfl⟩ : ∃ i, j = i + 1 := ⟨j - 1, by omega⟩
      have e1 : wrap64 (((i + 1 : Nat) : Int) - 1) = (i : Int) := by unfold wrap64; omega
      have g3 := List.pairwise_iff_getElem.1 h3 i (i + 1) (by omega) hjl (by omega)
      rw [if_pos (by omega), e1, if_pos (by omega), if_pos (by omega), rdK_at (show i < C.length by omega), if_neg (by omega)]
      exact ih (i + 1 + 1) k (by omega) (by omega)
theorem WindowFixed_pure (a b : Int) (l : List S58) (_ : I64 a) (_ : I64 b) (_ : l.length ≤ maxLen) (hr : ∀ x ∈ l, U64 x.f0 ∧ I64 x.f1) : ∃ k, spigotlaw38_WindowFixed.f k a b l = some true := by
  refine ⟨302, ?_⟩
  have fin : spigotlaw38_WindowFixed.j0 302 l true true a b = some true := by simp only [spigotlaw38_WindowFixed.j0, ↓reduceIte]
  obtain ⟨g, eg, _⟩ := great38 l
  unfold spigotlaw38_WindowFixed.f
  rw [alive38 302 (by omega), eg]
  simp only [Option.bind_some]
  by_cases hg : g = true
  · rw [if_pos hg]
    exact fin
  · rw [if_neg hg, (wCheck a b).2]
    simp only [Option.bind_some]
    by_cases hw : okWin a b
    · rw [if_pos hw, if_pos rfl, rCharges l hr 302 (by omega)]
      simp only [Option.bind_some]
      by_cases hc : chOf l = 0
      · rw [if_pos hc]
        obtain ⟨h1, h2⟩ := (chOf_zero hr).1 hc
        have hs : 0 < b := by have := hw.2.1; omega
        have h0 : 0 ≤ a := by have := hw.1.1; omega
        obtain ⟨o, ho⟩ : ∃ o, o = adm a (inF b) l [] := ⟨_, rfl⟩
        have os : o.Sublist l := by rw [ho]; exact adm_sub _ _ _ _
        have ol := os.length_le
        have orr : ∀ x ∈ o, cR x := fun x hx => hr x (os.subset hx)
        have ob := okB_sub os h2
        have oa : okA a (inF b) o [] := by rw [ho]; exact adm_ok _ _ _ _
        have hm := fixed_most hs h0 (okB_desc' ob) (okB_pos ob) oa
        have hm2 : wrap64 (2 * a) = 2 * a := wrap64_id (by omega) (by have := hw.1.2; omega)
        have H : (∀ y ∈ cS b l.reverse, y.f1 ≤ a) ↔ o = l := by rw [cS_few (okB_pos h2), adm_all, ho]
        have lC := cS_len b o.reverse
        have lD := cS_len b l.reverse
        rw [List.length_reverse] at lC lD
        obtain ⟨b1, b2⟩ := cS_begins hs (okB_desc' ob)
        show spigotlaw38_WindowFixed.j0 302 l true false a b = some true
        simp only [spigotlaw38_WindowFixed.j0]
        rw [if_neg (by decide), fixed_ok hr hw h1 h2 301 (by omega), ← ho]
        simp only [Option.bind_some, ↓reduceIte]
        rw [rCharges o orr 301 (by omega), (chOf_zero orr).2 ⟨by omega, ob⟩]
        simp only [Option.bind_some, ↓reduceIte]
        rw [if_neg (by omega), most_ok orr hw (by omega) ob 301 (by omega), counts_ok orr hw (by omega) ob 301 (by omega), counts_ok hr hw h1 h2 301 (by omega), fixed_ok orr hw (by omega) ob 301 (by omega), (adm_all _ _ _ _).1 oa, hm2]
        simp only [Option.bind_some, ↓reduceIte]
        rw [if_neg (by omega), same_self o (by omega) 301 (by omega)]
        simp only [Option.bind_some, ↓reduceIte]
        exact fx_l0 hw l o _ _ (by omega) (by omega) (by omega) H ((cS_few (okB_pos ob)).2 oa) b1 b2 (cS b o.reverse).length 0 301 (by omega) (by omega)
      · rw [if_neg hc]
        exact fin
    · rw [if_neg hw, if_neg (by decide)]
      exact fin
end Go.Proofs.Ytjjmnafhaneflaa.X
