/- tally.Share over whole numbers. -/
import Derived.Test.YtcdmjdghmbdikaaX3
import Derived.Test.YtcdmjdghmbdikaaX9
import Derived.Test.YtcdmjdghmbdikaaX10
import Derived.Test.YtcdmjdghmbdikaaWideDiv
import Derived.Test.YtcdmjdghmbdikaaBits
namespace Go.Proofs.Ytcdmjdghmbdikaa.X
open Go.RowKit Go.Proofs.YtcdmjdghmbdikaaW.PrintWords Go.Proofs.YtcdmjdghmbdikaaW.PrintLast Go.Proofs.YtcdmjdghmbdikaaW.PrintMore
set_option linter.unusedVariables false
set_option linter.unusedSimpArgs false

/-- The share: parts times Admitted, divided by both together. -/
def shareOf (a l p : Int) : Int := if a + l = 0 then p else a * p / (a + l)
theorem Share_loop (all hi lo P Q : Int) (h0 : U64 hi) (h1 : U64 lo) (ha : U64 all) (hP : P = hi * 18446744073709551616 + lo) (hQ : Q = P / (18446744073709551616 + all)) (hq : Q < 18446744073709551616) :
    ∀ (i k : Nat), i ≤ 128 → i + 2 ≤ k →
      tally_Share.l0 k all 1 hi lo (P / 2 ^ i / (18446744073709551616 + all)) (P / 2 ^ i % (18446744073709551616 + all) % 18446744073709551616) (P / 2 ^ i % (18446744073709551616 + all) / 18446744073709551616) ((i : Int) - 1) = some (Q, 0) := by
  have hD : 0 < 18446744073709551616 + all := by have := ha.1; omega
  have p0 : 0 ≤ P := by have := h0.1; have := h1.1; omega
  have hn : ∀ i : Nat, 0 ≤ P / 2 ^ i ∧ P / 2 ^ i ≤ P := fun i => ⟨div_nonneg p0 (two_pow_pos i), div_le p0 (two_pow_pos i)⟩
  intro i
  induction i with
  | zero =>
    intro k _ hk
    obtain ⟨k, rfl⟩ : ∃ m, k = m + 1 := ⟨k - 1, by omega⟩
    simp only [tally_Share.l0]
    rw [if_neg (by omega), hQ]
    simp
  | succ i ih =>
    intro k hi' hk
    obtain ⟨k, rfl⟩ : ∃ m, k = m + 1 := ⟨k - 1, by omega⟩
    have ex : (((i + 1 : Nat) : Int) - 1) = (i : Int) := by omega
    rw [ex]
    obtain ⟨n0, n1⟩ := hn i
    obtain ⟨m0, m1⟩ := hn (i + 1)
    have hhalf := half P i
    obtain ⟨r1, r2, r3⟩ := div_rest (n := P / 2 ^ (i + 1)) hD
    have q0 := div_nonneg m0 hD
    have st := digit_step (n := P / 2 ^ (i + 1)) (n' := P / 2 ^ i) (b := P / 2 ^ i % 2) hD hhalf (by omega) (by omega)
    have qi : P / 2 ^ i / (18446744073709551616 + all) ≤ Q := by rw [hQ]; exact div_mono hD n1
    have qj0 := div_nonneg n0 hD
    have ih' := ih k (by omega) (by omega)
    obtain ⟨ha0, ha1⟩ := ha
    have bit : ∀ b : Int, b = P / 2 ^ i % 2 →
        (∀ (x : Option (Int × Int)), ((if (Go.bits .or .u64 (IntKind.u64.wrap (P / 2 ^ (i + 1) % (18446744073709551616 + all) / 18446744073709551616 * 2)) (P / 2 ^ (i + 1) % (18446744073709551616 + all) % 18446744073709551616 / 9223372036854775808)) > 1 then
          ((bits_Sub64.f (Go.bits .or .u64 (IntKind.u64.wrap (P / 2 ^ (i + 1) % (18446744073709551616 + all) % 18446744073709551616 * 2)) b) all 0).bind fun bt => tally_Share.l0 k all 1 hi lo (Go.bits .or .u64 (IntKind.u64.wrap (P / 2 ^ (i + 1) / (18446744073709551616 + all) * 2)) 1) bt.1 (IntKind.u64.wrap ((Go.bits .or .u64 (IntKind.u64.wrap (P / 2 ^ (i + 1) % (18446744073709551616 + all) / 18446744073709551616 * 2)) (P / 2 ^ (i + 1) % (18446744073709551616 + all) % 18446744073709551616 / 9223372036854775808)) - (IntKind.u64.wrap (1 + bt.2)))) (wrap64 ((i : Int) - 1)))
          else if (Go.bits .or .u64 (IntKind.u64.wrap (P / 2 ^ (i + 1) % (18446744073709551616 + all) / 18446744073709551616 * 2)) (P / 2 ^ (i + 1) % (18446744073709551616 + all) % 18446744073709551616 / 9223372036854775808)) = 1 then
            if (Go.bits .or .u64 (IntKind.u64.wrap (P / 2 ^ (i + 1) % (18446744073709551616 + all) % 18446744073709551616 * 2)) b) ≥ all then
              ((bits_Sub64.f (Go.bits .or .u64 (IntKind.u64.wrap (P / 2 ^ (i + 1) % (18446744073709551616 + all) % 18446744073709551616 * 2)) b) all 0).bind fun bt => tally_Share.l0 k all 1 hi lo (Go.bits .or .u64 (IntKind.u64.wrap (P / 2 ^ (i + 1) / (18446744073709551616 + all) * 2)) 1) bt.1 (IntKind.u64.wrap ((Go.bits .or .u64 (IntKind.u64.wrap (P / 2 ^ (i + 1) % (18446744073709551616 + all) / 18446744073709551616 * 2)) (P / 2 ^ (i + 1) % (18446744073709551616 + all) % 18446744073709551616 / 9223372036854775808)) - (IntKind.u64.wrap (1 + bt.2)))) (wrap64 ((i : Int) - 1)))
            else tally_Share.l0 k all 1 hi lo (IntKind.u64.wrap (P / 2 ^ (i + 1) / (18446744073709551616 + all) * 2)) (Go.bits .or .u64 (IntKind.u64.wrap (P / 2 ^ (i + 1) % (18446744073709551616 + all) % 18446744073709551616 * 2)) b) (Go.bits .or .u64 (IntKind.u64.wrap (P / 2 ^ (i + 1) % (18446744073709551616 + all) / 18446744073709551616 * 2)) (P / 2 ^ (i + 1) % (18446744073709551616 + all) % 18446744073709551616 / 9223372036854775808)) (wrap64 ((i : Int) - 1))
          else tally_Share.l0 k all 1 hi lo (IntKind.u64.wrap (P / 2 ^ (i + 1) / (18446744073709551616 + all) * 2)) (Go.bits .or .u64 (IntKind.u64.wrap (P / 2 ^ (i + 1) % (18446744073709551616 + all) % 18446744073709551616 * 2)) b) (Go.bits .or .u64 (IntKind.u64.wrap (P / 2 ^ (i + 1) % (18446744073709551616 + all) / 18446744073709551616 * 2)) (P / 2 ^ (i + 1) % (18446744073709551616 + all) % 18446744073709551616 / 9223372036854775808)) (wrap64 ((i : Int) - 1))) = x → x = some (Q, 0)) ) := by
      intro b hb x hx
      rw [← hb] at hhalf st
      have b0 : 0 ≤ b := by omega
      have b1 : b ≤ 1 := by omega
      rw [← hx, wrap64_id (x := (i : Int) - 1) (by omega) (by omega)]
      clear hx
      generalize P / 2 ^ i = n' at *
      generalize P / 2 ^ (i + 1) = n at *
      have eQ : IntKind.u64.wrap (n / (18446744073709551616 + all) * 2) = 2 * (n / (18446744073709551616 + all)) := by
        rw [wrap_id ⟨by omega, ?_⟩]
        · omega
        · rcases Int.lt_or_le (2 * (n % (18446744073709551616 + all)) + b) (18446744073709551616 + all) with h | h
          · have := (st.2 h).1; omega
          · have := (st.1 h).1; omega
      rw [eQ]
      have q1 : n / (18446744073709551616 + all) < 9223372036854775808 := by
        rcases Int.lt_or_le (2 * (n % (18446744073709551616 + all)) + b) (18446744073709551616 + all) with h | h
        · have := (st.2 h).1; omega
        · have := (st.1 h).1; omega
      rw [or_bit (b := 1) q0 q1 (by decide) (by decide)]
      generalize n / (18446744073709551616 + all) = Qn at *
      generalize n % (18446744073709551616 + all) = R at *
      have eO : IntKind.u64.wrap (R / 18446744073709551616 * 2) = 2 * (R / 18446744073709551616) := by rw [wrap_id ⟨by omega, by omega⟩]; omega
      have eR : IntKind.u64.wrap (R % 18446744073709551616 * 2) = 2 * (R % 9223372036854775808) := by rw [wrap_u64]; omega
      rw [eO, eR, or_bit (a := R / 18446744073709551616) (by omega) (by omega) (by omega) (by omega), or_bit (a := R % 9223372036854775808) (by omega) (by omega) b0 b1]
      have sub : ∀ (y z : Int), 2 * R + b ≥ 18446744073709551616 + all → y = 2 * (R / 18446744073709551616) + R % 18446744073709551616 / 9223372036854775808 → z = 2 * (R % 9223372036854775808) + b →
          ((bits_Sub64.f z all 0).bind fun bt => tally_Share.l0 k all 1 hi lo (2 * Qn + 1) bt.1 (IntKind.u64.wrap (y - IntKind.u64.wrap (1 + bt.2))) ((i : Int) - 1)) = some (Q, 0) := by
        intro y z hc hy hz
        obtain ⟨s1, s2⟩ := st.1 hc
        unfold bits_Sub64.f
        rw [if_pos ⟨by omega, by omega, by omega, by omega, by omega⟩]
        simp only [Option.bind_some]
        rw [← ih', s1, s2]
        congr 1
        · omega
        · by_cases lt : z < all + 0
          · rw [if_pos lt]
            simp only [wrap_u64]
            omega
          · rw [if_neg lt]
            simp only [wrap_u64]
            omega
      by_cases c1 : 2 * (R / 18446744073709551616) + R % 18446744073709551616 / 9223372036854775808 > 1
      · rw [if_pos c1]
        exact sub _ _ (by omega) rfl rfl
      · rw [if_neg c1]
        by_cases c2 : 2 * (R / 18446744073709551616) + R % 18446744073709551616 / 9223372036854775808 = 1
        · rw [if_pos c2]
          by_cases c3 : 2 * (R % 9223372036854775808) + b ≥ all
          · rw [if_pos c3]
            exact sub _ _ (by omega) rfl rfl
          · rw [if_neg c3, ← ih']
            obtain ⟨s1, s2⟩ := st.2 (by omega)
            rw [s1, s2]
            congr 1 <;> omega
        · rw [if_neg c2, ← ih']
          obtain ⟨s1, s2⟩ := st.2 (by omega)
          rw [s1, s2]
          congr 1 <;> omega
    simp only [tally_Share.l0]
    rw [if_pos (by omega)]
    by_cases c : (i : Int) ≥ 64
    · rw [if_pos c, wrap64_id (x := (i : Int) - 64) (by omega) (by omega), if_pos (by omega), shr_ok _ _ (by omega) (by omega)]
      have hh := div_nonneg h0.1 (two_pow_pos ((i : Int) - 64).toNat)
      have hh1 := div_le h0.1 (two_pow_pos ((i : Int) - 64).toNat)
      have := h0.2
      rw [and_one hh (by omega)]
      refine bit _ ?_ _ rfl
      have e := bit_hi hi lo ((i : Int) - 64).toNat h1.1 h1.2
      rw [show 64 + ((i : Int) - 64).toNat = i by omega] at e
      rw [hP, e]
    · rw [if_neg c, if_pos (by omega), shr_ok _ _ (by omega) (by omega)]
      have hh := div_nonneg h1.1 (two_pow_pos (i : Int).toNat)
      have hh1 := div_le h1.1 (two_pow_pos (i : Int).toNat)
      have := h1.2
      rw [and_one hh (by omega)]
      refine bit _ ?_ _ rfl
      have e := bit_lo hi lo i (by omega)
      rw [hP, e]
      rfl
theorem U64_lo' {n : Int} : U64 (n % 18446744073709551616) := ⟨by omega, by omega⟩
theorem share_le {a l p : Int} (ha : 0 ≤ a) (hl : 0 ≤ l) (hp : 0 ≤ p) : 0 ≤ shareOf a l p ∧ shareOf a l p ≤ p := by
  unfold shareOf
  split
  · exact ⟨hp, Int.le_refl _⟩
  · have hD : 0 < a + l := by omega
    refine ⟨div_nonneg (Int.mul_nonneg ha hp) hD, ?_⟩
    have h : a * p ≤ p * (a + l) := by
      rw [Int.mul_comm p]
      exact Int.mul_le_mul_of_nonneg_right (by omega) hp
    have := div_mono hD h
    rw [Int.mul_ediv_cancel _ (by omega)] at this
    exact this
theorem Share_ok (k : Nat) (hk : 300 ≤ k) {a l c p : Int} (ha : U64 a) (hl : U64 l) (hp : U64 p) : tally_Share.f k a l c p = some (shareOf a l p, 0) := by
  obtain ⟨s0, s1⟩ := share_le ha.1 hl.1 hp.1
  have m := mul_U64_bd ha hp
  obtain ⟨a0, a1⟩ := ha
  obtain ⟨l0, l1⟩ := hl
  obtain ⟨k, rfl⟩ : ∃ m, k = m + 1 := ⟨k - 1, by omega⟩
  unfold tally_Share.f bits_Add64.f
  rw [if_pos ⟨a0, l0, by decide, by decide⟩]
  simp only [Option.bind_some, Int.add_zero]
  have go : ∀ f : Bool, f = false → a + l ≠ 0 → tally_Share.j0 (k + 1) p ((a + l) % 18446744073709551616) ((a + l) / 18446744073709551616) f a l c = some (shareOf a l p, 0) := by
    intro f hf hz
    subst hf
    simp only [tally_Share.j0, Bool.false_eq_true, ↓reduceIte]
    rw [bits_Mul64_ok ⟨a0, a1⟩ hp]
    simp only [Option.bind_some]
    have e : shareOf a l p = a * p / (a + l) := if_neg hz
    by_cases c1 : (a + l) / 18446744073709551616 = 0
    · have e2 : (a + l) % 18446744073709551616 = a + l := by omega
      rw [if_pos c1, e2, if_neg hz, tmod_nonneg_eq (by omega)]
      obtain ⟨r1, r2, r3⟩ := div_rest (n := a * p / 18446744073709551616) (y := a + l) (by omega)
      rw [Div64_ok k (by omega) _ _ _ r2 U64_lo' (by omega) r3]
      simp only [Option.bind_some]
      have q0 := div_nonneg (n := a * p / 18446744073709551616) (by omega) (by omega : 0 < a + l)
      have lt : a * p / 18446744073709551616 / (a + l) = 0 := by
        have h1 : a * p < 18446744073709551616 * (a + l) := by
          have : a * p ≤ (a + l) * p := Int.mul_le_mul_of_nonneg_right (by omega) hp.1
          have h2 : (a + l) * p < (a + l) * 18446744073709551616 := Int.mul_lt_mul_of_pos_left hp.2 (by omega)
          omega
        refine Int.ediv_eq_zero_of_lt (by omega) ?_
        omega
      rw [lt, Int.zero_mul, Int.zero_add] at r1
      rw [r1, e]
      congr 2
      congr 1
      omega
    · have e1 : (a + l) / 18446744073709551616 = 1 := by omega
      rw [if_neg c1, e1]
      have h := Share_loop ((a + l) % 18446744073709551616) (a * p / 18446744073709551616) (a * p % 18446744073709551616) (a * p) (shareOf a l p) ⟨by omega, by omega⟩ ⟨by omega, by omega⟩ ⟨by omega, by omega⟩ (by omega)
        (by rw [e]; congr 1; omega) (by have := hp.2; omega) 128 k (by omega) (by omega)
      have z : a * p / 2 ^ 128 = 0 := Int.ediv_eq_zero_of_lt m.1 (by have := m.2; show _ < (340282366920938463463374607431768211456 : Int); omega)
      rw [z, Int.zero_ediv, Int.zero_emod] at h
      exact h
  by_cases z : (a + l) % 18446744073709551616 = 0
  · rw [if_pos z]
    by_cases z2 : a + l = 0
    · rw [z2]
      simp only [tally_Share.j0]
      unfold shareOf
      rw [if_pos z2]
      rfl
    · exact go _ (by rw [beq_eq_false_iff_ne]; omega) z2
  · rw [if_neg z]
    exact go _ rfl (by omega)
end Go.Proofs.Ytcdmjdghmbdikaa.X
