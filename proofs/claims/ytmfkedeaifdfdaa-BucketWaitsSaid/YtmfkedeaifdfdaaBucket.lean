/- the package bucket over whole numbers: what a bucket holds, in parts of a token. -/
import Derived.Test.YtmfkedeaifdfdaaX4
import Derived.Test.YtmfkedeaifdfdaaX6
import Derived.Test.YtmfkedeaifdfdaaX7
import Derived.Test.YtmfkedeaifdfdaaX9
import Derived.Test.YtmfkedeaifdfdaaX10
import Derived.Test.YtmfkedeaifdfdaaWideDiv
namespace Go.Proofs.Ytmfkedeaifdfdaa.X
open Go.RowKit Go.Proofs.YtmfkedeaifdfdaaW.PrintWords Go.Proofs.YtmfkedeaifdfdaaW.PrintLast Go.Proofs.YtmfkedeaifdfdaaW.PrintMore
set_option linter.unusedVariables false
set_option linter.unusedSimpArgs false

/-- A valid limit: Burst, Rate, Per. -/
def VL (b r p : Int) : Prop := 1 ≤ b ∧ b ≤ 1000000000 ∧ 0 ≤ r ∧ r ≤ 1000000000 ∧ 1 ≤ p ∧ p ≤ 1000000000
/-- A valid bucket: its limit, Level, Part, At. -/
def VB (b r p l q t : Int) : Prop := VL b r p ∧ 0 ≤ l ∧ l ≤ b ∧ 0 ≤ q ∧ q < p ∧ (l = b → q = 0) ∧ U64 t
section
variable {b r p l q t s : Int}
theorem CheckLimit_ok (h : VL b r p) : bucket_CheckLimit.f b r p = some 0 := by
  obtain ⟨_, _, _, _, _, _⟩ := h
  unfold bucket_CheckLimit.f
  rw [if_neg (by omega), if_neg (by omega), if_neg (by omega), if_neg (by omega), if_neg (by omega), if_neg (by omega)]
theorem CheckLimit_bad (h : ¬ VL b r p) : bucket_CheckLimit.f b r p = some 8 := by
  unfold bucket_CheckLimit.f
  unfold VL at h
  repeat' split
  all_goals first | rfl | (exfalso; omega)
theorem Check_ok (h : VB b r p l q t) : bucket_Check.f b r p l q t = some 0 := by
  obtain ⟨hl, h1, h2, h3, h4, h5, _⟩ := h
  have hb := hl.1
  have hb' := hl.2.1
  unfold bucket_Check.f
  rw [CheckLimit_ok hl]
  simp only [Option.bind_some, ↓reduceIte]
  rw [if_neg (by omega), wrap64_id (x := b - l) (by omega) (by omega), if_neg (by omega), if_neg (by omega), if_neg (by omega)]
  by_cases c : b - l = 0
  · rw [if_pos c, if_neg (by have := h5 (by omega); omega)]
  · rw [if_neg c]
theorem Check_bad (ht : U64 t) (hl : I64 l) (h : ¬ VB b r p l q t) : bucket_Check.f b r p l q t = some 8 := by
  obtain ⟨_, _⟩ := hl
  unfold bucket_Check.f
  by_cases hv : VL b r p
  · rw [CheckLimit_ok hv]
    simp only [Option.bind_some, ↓reduceIte]
    have h' : ¬ (0 ≤ l ∧ l ≤ b ∧ 0 ≤ q ∧ q < p ∧ (l = b → q = 0)) := fun g => h ⟨hv, g.1, g.2.1, g.2.2.1, g.2.2.2.1, g.2.2.2.2, ht⟩
    obtain ⟨_, _, _, _, _, _⟩ := hv
    by_cases c1 : l < 0
    · rw [if_pos c1]
    · rw [if_neg c1, wrap64_id (x := b - l) (by omega) (by omega)]
      repeat' split
      all_goals first | rfl | (exfalso; omega)
  · rw [CheckLimit_bad hv]
    simp
/-- Level, Part and At behind a refill at t. -/
def fN (r q s t : Int) : Int := (t - s) * r + q
def fL (b r p l q s t : Int) : Int := if t ≤ s then l else if fN r q s t / p ≥ b - l then b else l + fN r q s t / p
def fP (b r p l q s t : Int) : Int := if t ≤ s then q else if fN r q s t / p ≥ b - l then 0 else fN r q s t % p
def fT (s t : Int) : Int := if t ≤ s then s else t
theorem fN_bd (hv : VB b r p l q s) (ht : U64 t) (h : s ≤ t) : 0 ≤ fN r q s t ∧ fN r q s t ≤ 18446744073709551615000000000 + 1000000000 ∧ 0 ≤ (t - s) * r ∧ (t - s) * r ≤ 18446744073709551615000000000 := by
  obtain ⟨⟨_, _, _, _, _, _⟩, _, _, _, _, _, ⟨_, _⟩⟩ := hv
  obtain ⟨_, _⟩ := ht
  have := mul_bd (by omega : 0 ≤ t - s) (by omega : t - s ≤ 18446744073709551615) (by assumption : 0 ≤ r) (by assumption : r ≤ 1000000000)
  unfold fN
  omega
theorem fill_ok (k : Nat) (hk : 20 ≤ k) (hv : VB b r p l q s) (ht : U64 t) : bucket_fill.f k b r p l q s t = some (b, r, p, fL b r p l q s t, fP b r p l q s t, fT s t) := by
  unfold bucket_fill.f fL fP fT
  by_cases c : t ≤ s
  · rw [if_pos c, if_pos c, if_pos c, if_pos c]
  · rw [if_neg c, if_neg c, if_neg c, if_neg c]
    obtain ⟨n0, n1, m0, m1⟩ := fN_bd hv ht (by omega : s ≤ t)
    obtain ⟨⟨b0, b1, r0, r1, p0, p1⟩, l0, l1, q0, q1, _, ⟨s0, s1⟩⟩ := hv
    obtain ⟨t0, t1⟩ := ht
    have ur : U64 r := ⟨by omega, by omega⟩
    have uq : U64 q := ⟨by omega, by omega⟩
    have up : U64 p := ⟨by omega, by omega⟩
    have ud : U64 (t - s) := ⟨by omega, by omega⟩
    have ub : U64 (b - l) := ⟨by omega, by omega⟩
    rw [wrap_id ud, wrap_id ur, wrap_id uq, wrap_id up, wide_Mul_ok ud ur, wide_Of_ok]
    simp only [Option.bind_some]
    rw [wide_Add_ok (U64_hi m0 (by omega)) U64_lo U64_zero uq (by rw [wv_of, wv_zero]; omega), wv_of, wv_zero]
    simp only [Option.bind_some]
    have e : (t - s) * r + q = fN r q s t := rfl
    rw [e, wide_Div_ok k hk (U64_hi n0 (by omega)) U64_lo (by omega) up.2, wv_of]
    simp only [Option.bind_some]
    have d0 := div_nonneg n0 (by omega : 0 < p)
    obtain ⟨e1, e2, e3⟩ := div_rest (n := fN r q s t) (by omega : 0 < p)
    by_cases c2 : fN r q s t / p < 18446744073709551616
    · rw [wide_Small_ok (by omega)]
      simp only [Option.bind_some, ↓reduceIte]
      rw [wrap64_id (x := b - l) (by omega) (by omega), wrap_id ub, show fN r q s t / p % 18446744073709551616 = fN r q s t / p by omega]
      by_cases c3 : fN r q s t / p ≥ b - l
      · rw [if_pos c3, if_pos c3, if_pos c3]
      · rw [if_neg c3, if_neg c3, if_neg c3, wrap64_id (x := fN r q s t / p) (by omega) (by omega), wrap64_id (by omega) (by omega), wrap64_id (by omega) (by omega)]
    · rw [wide_Small_err (by omega)]
      simp only [Option.bind_some]
      rw [if_neg (by decide), if_pos (by omega), if_pos (by omega)]
/-- What a bucket holds behind a refill, in parts. -/
theorem fill_amt (hv : VB b r p l q s) (h : s ≤ t) :
    (l * p + q + (t - s) * r < b * p → fL b r p l q s t * p + fP b r p l q s t = l * p + q + (t - s) * r) ∧ (b * p ≤ l * p + q + (t - s) * r → fL b r p l q s t = b ∧ fP b r p l q s t = 0) := by
  obtain ⟨⟨b0, b1, r0, r1, p0, p1⟩, l0, l1, q0, q1, hf, _⟩ := hv
  unfold fL fP
  by_cases c : t ≤ s
  · rw [if_pos c, if_pos c]
    have : t = s := by omega
    subst this
    rw [Int.sub_self, Int.zero_mul, Int.add_zero]
    refine ⟨fun _ => rfl, fun h => ?_⟩
    rcases Int.lt_or_le l b with g | g
    · have := Int.mul_le_mul_of_nonneg_right (by omega : l + 1 ≤ b) (by omega : 0 ≤ p)
      rw [Int.add_mul, Int.one_mul] at this
      omega
    · exact ⟨by omega, hf (by omega)⟩
  · rw [if_neg c, if_neg c]
    obtain ⟨e1, e2, e3⟩ := div_rest (n := fN r q s t) (by omega : 0 < p)
    have ef : fN r q s t = (t - s) * r + q := rfl
    by_cases c3 : fN r q s t / p ≥ b - l
    · rw [if_pos c3, if_pos c3]
      have h1 := Int.mul_le_mul_of_nonneg_right c3 (by omega : 0 ≤ p)
      rw [Int.sub_mul] at h1
      exact ⟨fun h => by omega, fun _ => ⟨rfl, rfl⟩⟩
    · rw [if_neg c3, if_neg c3]
      have h1 := Int.mul_le_mul_of_nonneg_right (by omega : fN r q s t / p + 1 ≤ b - l) (by omega : 0 ≤ p)
      rw [Int.sub_mul, Int.add_mul, Int.one_mul] at h1
      rw [Int.add_mul]
      exact ⟨fun _ => by omega, fun h => by omega⟩
theorem fT_U64 (hs : U64 s) (ht : U64 t) : U64 (fT s t) := by unfold fT; split <;> assumption
theorem fill_valid (hv : VB b r p l q s) (ht : U64 t) : VB b r p (fL b r p l q s t) (fP b r p l q s t) (fT s t) := by
  have hv0 := hv
  obtain ⟨hl, l0, l1, q0, q1, hf, hs⟩ := hv
  refine ⟨hl, ?_⟩
  have hT := fT_U64 hs ht
  obtain ⟨b0, b1, r0, r1, p0, p1⟩ := hl
  by_cases c : t ≤ s
  · unfold fL fP
    rw [if_pos c, if_pos c]
    exact ⟨l0, l1, q0, q1, hf, hT⟩
  · obtain ⟨n0, n1, m0, m1⟩ := fN_bd hv0 ht (by omega : s ≤ t)
    unfold fL fP
    rw [if_neg c, if_neg c]
    obtain ⟨e1, e2, e3⟩ := div_rest (n := fN r q s t) (by omega : 0 < p)
    have d0 := div_nonneg n0 (by omega : 0 < p)
    by_cases c3 : fN r q s t / p ≥ b - l
    · rw [if_pos c3, if_pos c3]
      exact ⟨by omega, by omega, by omega, by omega, fun _ => rfl, hT⟩
    · rw [if_neg c3, if_neg c3]
      exact ⟨by omega, by omega, e2, e3, fun h => by omega, hT⟩
/-- Amounts tell Level and Part. -/
theorem amt_inj {l q l' q' p : Int} (q0 : 0 ≤ q) (q1 : q < p) (q0' : 0 ≤ q') (q1' : q' < p) (h : l * p + q = l' * p + q') : l = l' ∧ q = q' := by
  obtain ⟨a, b⟩ := div_uniq (n := l * p + q) (y := p) (q := l) (by omega) (by omega)
  obtain ⟨a', b'⟩ := div_uniq (n := l' * p + q') (y := p) (q := l') (by omega) (by omega)
  rw [h] at a b
  exact ⟨by omega, by omega⟩
theorem Refill_ok (k : Nat) (hk : 20 ≤ k) (hv : VB b r p l q s) (ht : U64 t) : bucket_Refill.f k b r p l q s t = some (b, r, p, fL b r p l q s t, fP b r p l q s t, fT s t, 0) := by
  unfold bucket_Refill.f
  rw [Check_ok hv]
  simp only [Option.bind_some, ↓reduceIte]
  rw [fill_ok k hk hv ht]
  rfl
theorem Refill_bad (k : Nat) (hs : U64 s) (hl : I64 l) (h : ¬ VB b r p l q s) : bucket_Refill.f k b r p l q s t = some (0, 0, 0, 0, 0, 0, 8) := by
  unfold bucket_Refill.f
  rw [Check_bad hs hl h]
  rfl
theorem Charge_bad (hs : U64 s) (hl : I64 l) (h : ¬ VB b r p l q s) {c : Int} : bucket_Charge.f b r p l q s c = some (0, 0, 0, 0, 0, 0, 8) := by
  unfold bucket_Charge.f
  rw [Check_bad hs hl h]
  rfl
theorem Charge_arg (hv : VB b r p l q s) {c : Int} (hc : c < 0) : bucket_Charge.f b r p l q s c = some (0, 0, 0, 0, 0, 0, 2) := by
  unfold bucket_Charge.f
  rw [Check_ok hv]
  simp only [Option.bind_some, ↓reduceIte]
  rw [if_pos hc]
theorem Charge_low (hv : VB b r p l q s) {c : Int} (hc : 0 ≤ c) (h : l < c) : bucket_Charge.f b r p l q s c = some (0, 0, 0, 0, 0, 0, 20) := by
  unfold bucket_Charge.f
  rw [Check_ok hv]
  simp only [Option.bind_some, ↓reduceIte]
  rw [if_neg (by omega), if_pos h]
theorem Charge_ok (hv : VB b r p l q s) {c : Int} (hc : 0 ≤ c) (h : c ≤ l) : bucket_Charge.f b r p l q s c = some (b, r, p, l - c, q, s, 0) := by
  unfold bucket_Charge.f
  rw [Check_ok hv]
  simp only [Option.bind_some, ↓reduceIte]
  obtain ⟨⟨_, _, _, _, _, _⟩, _, _, _, _, _, _⟩ := hv
  rw [if_neg (by omega), if_neg (by omega), wrap64_id (by omega) (by omega)]
theorem charge_valid (hv : VB b r p l q s) {c : Int} (hc : 0 ≤ c) (h : c ≤ l) : VB b r p (l - c) q s := by
  obtain ⟨hl, l0, l1, q0, q1, hf, hs⟩ := hv
  exact ⟨hl, by omega, by omega, q0, q1, fun e => hf (by omega), hs⟩
theorem Full_ok (h : VL b r p) : bucket_Full.f b r p t = some (b, r, p, b, 0, t, 0) := by unfold bucket_Full.f; rw [CheckLimit_ok h]; rfl
theorem Full_bad (h : ¬ VL b r p) : bucket_Full.f b r p t = some (0, 0, 0, 0, 0, 0, 8) := by unfold bucket_Full.f; rw [CheckLimit_bad h]; rfl
theorem full_valid (h : VL b r p) (ht : U64 t) : VB b r p b 0 t := ⟨h, by have := h.1; omega, by omega, by omega, by have := h.2.2.2.2.1; omega, fun _ => rfl, ht⟩
/-- The wait for a cost. -/
def wN (r p l q c : Int) : Int := cdiv ((c - l) * p - q) r
def waitOf (b r p l q s c : Int) : Int := if c ≤ l then 0 else if c > b ∨ r = 0 then 18446744073709551615 else if wN r p l q c > 18446744073709551615 - s then 18446744073709551615 else wN r p l q c
theorem Wait_bad (k : Nat) (hs : U64 s) (hl : I64 l) (h : ¬ VB b r p l q s) {c : Int} : bucket_Wait.f k b r p l q s c = some (0, 8) := by
  unfold bucket_Wait.f
  rw [Check_bad hs hl h]
  rfl
theorem Wait_arg (k : Nat) (hv : VB b r p l q s) {c : Int} (hc : c < 0) : bucket_Wait.f k b r p l q s c = some (0, 2) := by
  unfold bucket_Wait.f
  rw [Check_ok hv]
  simp only [Option.bind_some, ↓reduceIte]
  rw [if_pos hc]
theorem miss_bd (hv : VB b r p l q s) {c : Int} (h1 : l < c) (h2 : c ≤ b) : 0 < (c - l) * p - q ∧ (c - l) * p ≤ 1000000000000000000 ∧ p ≤ (c - l) * p := by
  obtain ⟨⟨_, _, _, _, _, _⟩, _, _, _, _, _, _⟩ := hv
  have h := Int.mul_le_mul_of_nonneg_right (by omega : 1 ≤ c - l) (by omega : 0 ≤ p)
  have g := (mul_bd (by omega : 0 ≤ c - l) (by omega : c - l ≤ 1000000000) (by omega : 0 ≤ p) (by omega : p ≤ 1000000000)).2
  rw [Int.one_mul] at h
  omega
theorem cdiv_bd {n d : Int} (hd : 0 < d) (hn : 0 < n) : 0 < cdiv n d ∧ cdiv n d ≤ n ∧ n ≤ cdiv n d * d ∧ cdiv n d * d < n + d := by
  unfold cdiv
  obtain ⟨e1, e2⟩ := div_bd (n := n + d - 1) hd
  have h1 : 1 ≤ (n + d - 1) / d := le_div hd (by omega)
  have h2 : (n + d - 1) / d * 1 ≤ (n + d - 1) / d * d := Int.mul_le_mul_of_nonneg_left (by omega) (by omega)
  refine ⟨by omega, ?_, by omega, by omega⟩
  rcases Int.lt_or_le n ((n + d - 1) / d) with h | h
  · have h3 := Int.mul_le_mul_of_nonneg_right (by omega : n + 1 ≤ (n + d - 1) / d) (by omega : 0 ≤ d)
    rw [Int.add_mul, Int.one_mul] at h3
    have h4 : n * 1 ≤ n * d := Int.mul_le_mul_of_nonneg_left (by omega) (by omega)
    omega
  · exact h
theorem Wait_ok (k : Nat) (hk : 20 ≤ k) (hv : VB b r p l q s) {c : Int} (hc : 0 ≤ c) (hc1 : I64 c) : bucket_Wait.f k b r p l q s c = some (waitOf b r p l q s c, 0) := by
  unfold bucket_Wait.f waitOf
  rw [Check_ok hv]
  simp only [Option.bind_some, ↓reduceIte]
  rw [if_neg (by omega)]
  by_cases c1 : c ≤ l
  · rw [if_pos c1, if_pos c1]
  · rw [if_neg c1, if_neg c1]
    by_cases c2 : c > b
    · rw [if_pos c2, if_pos (.inl c2)]
    · rw [if_neg c2]
      by_cases c3 : r = 0
      · rw [if_pos c3, if_pos (.inr c3)]
      · rw [if_neg c3, if_neg (by omega)]
        obtain ⟨m0, m1, m2⟩ := miss_bd hv (by omega : l < c) (by omega : c ≤ b)
        obtain ⟨⟨b0, b1, r0, r1, p0, p1⟩, l0, l1, q0, q1, _, ⟨s0, s1⟩⟩ := hv
        have ur : U64 r := ⟨by omega, by omega⟩
        have uq : U64 q := ⟨by omega, by omega⟩
        have up : U64 p := ⟨by omega, by omega⟩
        have uc : U64 (c - l) := ⟨by omega, by omega⟩
        obtain ⟨d0, d1, d2, d3⟩ := cdiv_bd (by omega : 0 < r) m0
        rw [wrap64_id (x := c - l) (by omega) (by omega), wrap_id uc, wrap_id up, wrap_id uq, wrap_id ur, wide_Mul_ok uc up, wide_Of_ok]
        simp only [Option.bind_some]
        rw [wide_Sub_ok (U64_hi (by omega) (by omega)) U64_lo U64_zero uq (by rw [wv_of, wv_zero]; omega), wv_of, wv_zero]
        simp only [Option.bind_some]
        rw [wide_Up_ok k hk (U64_hi (by omega) (by omega)) U64_lo (by omega) ur.2, wv_of]
        simp only [Option.bind_some]
        have ew : cdiv ((c - l) * p - q) r = wN r p l q c := rfl
        rw [ew] at d0 d1 d2 d3 ⊢
        rw [wide_Small_ok (by omega)]
        simp only [Option.bind_some, ↓reduceIte]
        rw [wrap_id (x := 18446744073709551615 - s) ⟨by omega, by omega⟩, show wN r p l q c % 18446744073709551616 = wN r p l q c by omega]
        by_cases c4 : wN r p l q c > 18446744073709551615 - s
        · rw [if_pos c4, if_pos c4]
        · rw [if_neg c4, if_neg c4]
end
end Go.Proofs.Ytmfkedeaifdfdaa.X
