/- BucketCharges over whole numbers. -/
import Derived.Test.YtmfkedeaifdfdaaX9
import Derived.Test.YtmfkedeaifdfdaaX10
import Derived.Test.YtmfkedeaifdfdaaX11
import Derived.Test.YtmfkedeaifdfdaaBucketRef
import Derived.Test.YtmfkedeaifdfdaaBucketWait
namespace Go.Proofs.Ytmfkedeaifdfdaa.X
open Go.RowKit Go.Proofs.YtmfkedeaifdfdaaW.PrintWords Go.Proofs.YtmfkedeaifdfdaaW.PrintLast Go.Proofs.YtmfkedeaifdfdaaW.PrintMore
set_option linter.unusedVariables false
set_option linter.unusedSimpArgs false

section
variable {b r p l q t s c : Int}
theorem ref_Charge_eq (hs : U64 s) (hl : I64 l) : spigotref03_Charge.f b r p l q s c = bucket_Charge.f b r p l q s c := by
  by_cases h : VB b r p l q s
  · unfold spigotref03_Charge.f
    rw [ref_Check_ok h]
    simp only [Option.bind_some, ↓reduceIte]
    by_cases c1 : c < 0
    · rw [if_pos c1, Charge_arg h c1]
    · rw [if_neg c1]
      by_cases c2 : l < c
      · rw [if_pos c2, Charge_low h (by omega) c2]
      · have hv := h
        obtain ⟨⟨_, _, _, _, _, _⟩, _, _, _, _, _, _⟩ := hv
        rw [if_neg c2, Charge_ok h (by omega) (by omega), wrap64_id (by omega) (by omega)]
  · rw [Charge_bad hs hl h]
    unfold spigotref03_Charge.f
    rw [ref_Check_bad hs h]
    rfl
theorem waited_loop (hv : VB b r p l q s) (n : Int) (hn : n ≤ 18446744073709551615 - s) (hn0 : 0 ≤ n) (hc : ∀ t, U64 t → s ≤ t → (c ≤ fL b r p l q s t ↔ n ≤ t - s)) :
    ∀ (d k : Nat) (lo hi : Int), 0 ≤ lo → lo ≤ n → n ≤ hi → hi ≤ 18446744073709551615 - s → hi - lo < 2 ^ d → 301 + d ≤ k → spigotref03_Waited.l0 k c lo hi b r p l q s = some n := by
  have hs := hv.2.2.2.2.2.2
  obtain ⟨s0, s1⟩ := hs
  intro d
  induction d with
  | zero =>
    intro k lo hi h0 h1 h2 h3 h4 hk
    obtain ⟨k, rfl⟩ : ∃ m, k = m + 1 := ⟨k - 1, by omega⟩
    simp only [spigotref03_Waited.l0]
    have : (2 : Int) ^ 0 = 1 := rfl
    rw [if_neg (by omega)]
    congr 1
    omega
  | succ d ih =>
    intro k lo hi h0 h1 h2 h3 h4 hk
    obtain ⟨k, rfl⟩ : ∃ m, k = m + 1 := ⟨k - 1, by omega⟩
    have e2 : (2 : Int) ^ (d + 1) = 2 * 2 ^ d := by rw [Int.pow_succ, Int.mul_comm]
    have tp := two_pow_pos d
    simp only [spigotref03_Waited.l0]
    by_cases lt : lo < hi
    · rw [if_pos lt, wrap_id (x := hi - lo) ⟨by omega, by omega⟩, tdiv_nonneg_eq (by omega), wrap_id (x := (hi - lo) / 2) ⟨by omega, by omega⟩, wrap_id (x := lo + (hi - lo) / 2) ⟨by omega, by omega⟩, wrap_id (x := s + (lo + (hi - lo) / 2)) ⟨by omega, by omega⟩,
        ref_Filled_ok k (by omega) hv ⟨by omega, by omega⟩]
      simp only [Option.bind_some]
      have h := hc (s + (lo + (hi - lo) / 2)) ⟨by omega, by omega⟩ (by omega)
      by_cases g : fL b r p l q s (s + (lo + (hi - lo) / 2)) ≥ c
      · rw [if_pos g]
        have := h.1 g
        exact ih k _ _ h0 h1 (by omega) (by omega) (by omega) (by omega)
      · rw [if_neg g, wrap_id ⟨by omega, by omega⟩]
        have : ¬ n ≤ s + (lo + (hi - lo) / 2) - s := fun g' => g (h.2 g')
        exact ih k _ _ (by omega) (by omega) h2 h3 (by omega) (by omega)
    · rw [if_neg lt]
      congr 1
      omega
theorem ref_Wait_eq (k : Nat) (hk : 400 ≤ k) (hs : U64 s) (hl : I64 l) (hc : I64 c) : spigotref03_Wait.f k b r p l q s c = bucket_Wait.f k b r p l q s c := by
  by_cases h : VB b r p l q s
  · unfold spigotref03_Wait.f
    rw [ref_Check_ok h]
    simp only [Option.bind_some, ↓reduceIte]
    by_cases c1 : c < 0
    · rw [if_pos c1, Wait_arg k h c1]
    · rw [if_neg c1, Wait_ok k (by omega) h (by omega) hc]
      obtain ⟨w0, w1, w2⟩ := wait_spec h (by omega : 0 ≤ c)
      unfold spigotref03_Waited.f
      have um : U64 18446744073709551615 := ⟨by decide, by decide⟩
      have hs' := hs.2
      have hs0 := hs.1
      rw [ref_Filled_ok k (by omega) h um]
      simp only [Option.bind_some]
      by_cases e : waitOf b r p l q s c = 18446744073709551615
      · rw [if_pos ((w1 e).2 _ um (by omega)), e]
        rfl
      · obtain ⟨g1, g2, g3, g4, g5⟩ := w2 e
        have := (g5 _ um (by omega)).2 (by omega)
        rw [if_neg (by omega), wrap_id ⟨by omega, by omega⟩, waited_loop h (waitOf b r p l q s c) g1 w0 g5 64 k 0 _ (by omega) w0 g1 (by omega) (by show _ < (18446744073709551616 : Int); omega) (by omega)]
        rfl
  · rw [Wait_bad k hs hl h]
    unfold spigotref03_Wait.f
    rw [ref_Check_bad hs h]
    rfl
theorem ref_Change_eq (k : Nat) (hk : 400 ≤ k) (hs : U64 s) (hl : I64 l) (ht : U64 t) {b' r' p' : Int} : spigotref03_Change.f k b r p l q s b' r' p' t = bucket_Change.f k b r p l q s b' r' p' t := by
  unfold spigotref03_Change.f bucket_Change.f
  by_cases h : VB b r p l q s
  · rw [ref_Check_ok h, Check_ok h]
    simp only [Option.bind_some, ↓reduceIte]
    by_cases h2 : VL b' r' p'
    · rw [ref_CheckLimit_ok h2, CheckLimit_ok h2]
      simp only [Option.bind_some, ↓reduceIte]
      rw [ref_Filled_ok k (by omega) h ht, fill_ok k (by omega) h ht]
    · rw [ref_CheckLimit_bad h2, CheckLimit_bad h2]
      rfl
  · rw [ref_Check_bad hs h, Check_bad hs hl h]
    rfl
theorem Charge_some (hs : U64 s) (hl : I64 l) : ∃ x, bucket_Charge.f b r p l q s c = some x := by
  by_cases h : VB b r p l q s
  · by_cases c1 : c < 0
    · exact ⟨_, Charge_arg h c1⟩
    · by_cases c2 : l < c
      · exact ⟨_, Charge_low h (by omega) c2⟩
      · exact ⟨_, Charge_ok h (by omega) (by omega)⟩
  · exact ⟨_, Charge_bad hs hl h⟩
theorem Wait_some (k : Nat) (hk : 20 ≤ k) (hs : U64 s) (hl : I64 l) (hc : I64 c) : ∃ x, bucket_Wait.f k b r p l q s c = some x := by
  by_cases h : VB b r p l q s
  · by_cases c1 : c < 0
    · exact ⟨_, Wait_arg k h c1⟩
    · exact ⟨_, Wait_ok k hk h (by omega) hc⟩
  · exact ⟨_, Wait_bad k hs hl h⟩
theorem Change_some (k : Nat) (hk : 20 ≤ k) (hs : U64 s) (hl : I64 l) (ht : U64 t) {b' r' p' : Int} : ∃ x, bucket_Change.f k b r p l q s b' r' p' t = some x := by
  unfold bucket_Change.f
  by_cases h : VB b r p l q s
  · rw [Check_ok h]
    simp only [Option.bind_some, ↓reduceIte]
    by_cases h2 : VL b' r' p'
    · rw [CheckLimit_ok h2]
      simp only [Option.bind_some, ↓reduceIte]
      rw [fill_ok k hk h ht]
      exact ⟨_, rfl⟩
    · rw [CheckLimit_bad h2]
      exact ⟨_, rfl⟩
  · rw [Check_bad hs hl h]
    exact ⟨_, rfl⟩
end
theorem BucketCharges_pure (b r p l q s c b' r' p' t : Int) (_ : I64 b) (_ : I64 r) (_ : I64 p) (hl : I64 l) (_ : I64 q) (hs : U64 s) (hc : I64 c) (_ : I64 b') (_ : I64 r') (_ : I64 p') (ht : U64 t) : ∃ k, spigotlaw03_BucketCharges.f k b r p l q s c b' r' p' t = some true := by
  refine ⟨400, ?_⟩
  unfold spigotlaw03_BucketCharges.f
  obtain ⟨x1, e1⟩ := Charge_some (b := b) (r := r) (p := p) (l := l) (q := q) (s := s) (c := c) hs hl
  obtain ⟨x2, e2⟩ := Wait_some (b := b) (r := r) (p := p) (l := l) (q := q) (s := s) (c := c) 400 (by omega) hs hl hc
  obtain ⟨x3, e3⟩ := Change_some (b := b) (r := r) (p := p) (l := l) (q := q) (s := s) (t := t) (b' := b') (r' := r') (p' := p') 400 (by omega) hs hl ht
  rw [ref_Charge_eq hs hl, ref_Wait_eq 400 (by omega) hs hl hc, ref_Change_eq 400 (by omega) hs hl ht, e1, e2, e3]
  simp
end Go.Proofs.Ytmfkedeaifdfdaa.X
