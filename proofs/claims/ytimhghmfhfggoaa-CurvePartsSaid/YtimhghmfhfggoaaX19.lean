-- written by xprint.py, a program of this session over the kit's print
import Derived.Test.YtimhghmfhfggoaaX0
import Derived.Test.YtimhghmfhfggoaaX9
import Derived.Test.YtimhghmfhfggoaaX18
namespace Go.Proofs.Ytimhghmfhfggoaa.X
open Go.RowKit Go.Proofs.YtimhghmfhfggoaaW.PrintWords Go.Proofs.YtimhghmfhfggoaaW.PrintLast Go.Proofs.YtimhghmfhfggoaaW.PrintMore
attribute [local go_sem] max2_int min2_int max_two min_two max_three min_three max_four min_four   -- for this text's walks alone
set_option linter.unusedVariables false
set_option linter.unusedSimpArgs false

/-! The map of sums: what it holds at the keys that are read. -/
theorem fm_laid : laidOutB Try.prog = true := by kernel_rfl
theorem fm_law : Go.Maps.Keyed Try.prog 70 := Go.Maps.Keyed.of_law (deep_law_laid fm_laid (m := 2) (by omega) (of_decide_eq_true (by kernel_rfl)) (by kernel_rfl) (by kernel_rfl))
theorem fm_lits (d : Nat) (a b : Int) (ha : (Lit.int .i64 a).wf = true) (hb : (Lit.int .i64 b).wf = true) : Try.prog.keyLits (d + 2) 70 [.int .i64 a, .int .i64 b] = some [.int .i64 a, .int .i64 b] := by
  have c2 : Try.prog.cellsOf 70 = 2 := by kernel_rfl
  have c1 : Try.prog.cellsOf 3 = 1 := by kernel_rfl
  have one : ∀ x : Int, (Lit.int .i64 x).wf = true → Try.prog.keyLits (d + 1) 3 [.int .i64 x] = some [.int .i64 x] := by
    intro x hx
    unfold Program.keyLits
    rw [Try.underlying3]
    simp only [hx, and_self, ↓reduceIte]
  unfold Program.keyLits
  rw [Try.underlying70]
  simp only [List.length_cons, List.length_nil, c2, c1, Nat.reduceAdd, ↓reduceIte]
  have r2 : List.range 2 = [0, 1] := rfl
  rw [r2]
  simp only [List.mapM_cons, List.mapM_nil, Nat.mul_one, List.drop_zero, List.drop_succ_cons, List.take_succ_cons, List.take_zero]
  rw [one a ha, one b hb]
  rfl
def fm_kl (a b : Int) : Lit := .string (keyBytes [.int .i64 a, .int .i64 b])
def fm_in (a : Int) : Prop := -9223372036854775808 ≤ a ∧ a < 9223372036854775808
theorem fm_wf {a : Int} (h : fm_in a) : (Lit.int .i64 a).wf = true := by
  obtain ⟨h1, h2⟩ := h
  simp [Lit.wf, IntKind.min, IntKind.max, IntKind.bits, IntKind.signed]
  omega
theorem fm_key {a b : Int} (ha : fm_in a) (hb : fm_in b) : keyOf Try.prog 70 (.agg #[.int .i64 a, .int .i64 b]) = some (fm_kl a b) := by
  unfold keyOf
  rw [Try.underlying70]
  simp only
  have e1 : Try.prog.keyType 70 = true := by kernel_rfl
  have e2 : (Value.agg #[.int .i64 a, .int .i64 b]).formed Try.prog 70 = true := by kernel_rfl
  have e3 : Try.prog.keyLits (Try.prog.types.size + 1) 70 (Value.agg #[.int .i64 a, .int .i64 b]).cells.toList = some [.int .i64 a, .int .i64 b] := by
    have : Try.prog.types.size + 1 = (Try.prog.types.size - 1) + 2 := by kernel_rfl
    rw [this]
    exact fm_lits _ a b (fm_wf ha) (fm_wf hb)
  rw [e1, e2, e3]
  rfl
theorem fm_ne {a b a' b' : Int} (ha : fm_in a) (hb : fm_in b) (ha' : fm_in a') (hb' : fm_in b') (h : ¬ (a = a' ∧ b = b')) : fm_kl a b ≠ fm_kl a' b' := by
  intro e
  have k1 := fm_key ha hb
  have k2 := fm_key ha' hb'
  rw [← e] at k2
  have := fm_law.inj k1 k2
  simp only [Value.agg.injEq, Array.mk.injEq, List.cons.injEq, Value.int.injEq, true_and, and_true] at this
  exact h (by simpa using this)
theorem fm_zero (w : World) : (zeroValue 2).run Try.prog w = .ok (.int .i64 0) w := by kernel_rfl
abbrev fmZ : DataW Unit := .lit (.int .i64 0)
/-- Block B is a map of at most n entries, with nothing at a key (a, b) where b < a. -/
def fmO (w : World) (B : Nat) (n : Int) : Prop := ∃ (m : Nat) (D : DataW Unit), w.ownsMap Try.prog 70 (plainElem Try.prog 2) B m D ∧ (m : Int) ≤ n ∧ ∀ a b : Int, fm_in a → fm_in b → b < a → D.atKey (fm_kl a b) fmZ = fmZ
/-- .. and with s at the key (i + 1, j). -/
def fmI (w : World) (B : Nat) (n i j s : Int) : Prop := ∃ (m : Nat) (D : DataW Unit), w.ownsMap Try.prog 70 (plainElem Try.prog 2) B m D ∧ (m : Int) ≤ n ∧ (∀ a b : Int, fm_in a → fm_in b → b < a → D.atKey (fm_kl a b) fmZ = fmZ) ∧ D.atKey (fm_kl (i + 1) j) fmZ = .lit (.int .i64 s)
theorem fm_block {w w' : World} {B m : Nat} {D : DataW Unit} (h : w.ownsMap Try.prog 70 (plainElem Try.prog 2) B m D) (e : w'.heap[B]? = w.heap[B]?) : w'.ownsMap Try.prog 70 (plainElem Try.prog 2) B m D := by
  obtain ⟨es, clock, hb, F, hs, hD⟩ := h
  exact ⟨es, clock, e.trans hb, F, hs, hD⟩
theorem fmI_below {w w' : World} {B : Nat} {n i j s : Int} (h : fmI w B n i j s) (hb : Below w.heap.size w w') : fmI w' B n i j s := by
  obtain ⟨m, D, h1, h2, h3, h4⟩ := h
  exact ⟨m, D, fm_block h1 (hb.block B h1.lt), h2, h3, h4⟩
theorem fmI_drew {w : World} {B : Nat} {n i j s : Int} (h : fmI w B n i j s) : fmI w.drew B n i j s := h
theorem fmO_made (w : World) : fmO (w.alloc (.map #[] 0)) w.heap.size 0 := ⟨0, .map [], World.ownsMap_made w _ _ _, by decide, fun _ _ _ _ _ => rfl⟩
theorem fmO_I {w : World} {B : Nat} {n j : Int} (h : fmO w B n) (h0 : 0 ≤ j) (h1 : j < 1000000) : fmI w B n j j 0 := by
  obtain ⟨m, D, h2, h3, h4⟩ := h
  exact ⟨m, D, h2, h3, h4, h4 _ _ ⟨by omega, by omega⟩ ⟨by omega, by omega⟩ (by omega)⟩
theorem fmI_O {w : World} {B : Nat} {n n' i j s : Int} (h : fmI w B n i j s) (hn : n ≤ n') : fmO w B n' := by
  obtain ⟨m, D, h2, h3, h4, _⟩ := h
  exact ⟨m, D, h2, by omega, h4⟩
theorem fmI_look {w : World} {B : Nat} {n i j s : Int} (h : fmI w B n i j s) (h0 : 0 ≤ i) (h1 : i < 1000000) (h2 : 0 ≤ j) (h3 : j < 1000000) : (Instr.lookup 69 (.map (some B)) (.agg #[.int .i64 (wrap64 (i + 1)), .int .i64 j]) false).run Try.prog w = .ok (.int .i64 s) w := by
  obtain ⟨m, D, o, _, _, e⟩ := h
  have hw : wrap64 (i + 1) = i + 1 := by unfold wrap64; omega
  rw [hw]
  obtain ⟨c, r, hat, _⟩ := o.lookup_int fm_law Try.underlying69 Try.underlying2 (fm_zero w) (fm_key (a := i + 1) (b := j) ⟨by omega, by omega⟩ ⟨by omega, by omega⟩)
  rw [e] at hat
  simp only [DataW.lit.injEq, Lit.int.injEq, true_and] at hat
  rw [hat]
  exact r
theorem fmI_put {w1 : World} {B m : Nat} {D : DataW Unit} {n i j v : Int} (o : w1.ownsMap Try.prog 70 (plainElem Try.prog 2) B (m + 1) (D.put (fm_kl i j) (.lit (.int .i64 v)))) (hD : Go.Maps.IsMap D) (hm : (m : Int) ≤ n) (h4 : ∀ a b : Int, fm_in a → fm_in b → b < a → D.atKey (fm_kl a b) fmZ = fmZ) (h0 : 0 ≤ i) (hij : i ≤ j) (hj : j < 1000000) : fmI w1 B (n + 1) (i - 1) j v := by
  refine ⟨m + 1, _, o, by omega, fun a b ha hb hlt => ?_, ?_⟩
  · rw [Go.Maps.atKey_put_other (fm_ne ha hb ⟨by omega, by omega⟩ ⟨by omega, by omega⟩ (by omega))]
    exact h4 a b ha hb hlt
  · rw [Int.sub_add_cancel]
    exact Go.Maps.atKey_put_same hD (fm_law.key (fm_key (a := i) (b := j) ⟨by omega, by omega⟩ ⟨by omega, by omega⟩)) _ _
theorem fm_isMap {w : World} {B m : Nat} {D : DataW Unit} (h : w.ownsMap Try.prog 70 (plainElem Try.prog 2) B m D) : Go.Maps.IsMap D := by
  obtain ⟨es, clock, hb, F, hs, rfl⟩ := h
  exact ⟨_, rfl⟩
mutual
def curve_First.l0 : Nat → List (S49) → List (S62) → Int → Option (Int × Int × Int)
  | 0, _, _, _ => none
  | k + 1, x0, x1, x6 => if x6 < (x1.length : Int) then (if 0 ≤ x6 then (curve_First.l1 k x0 x1 x6 0 x6) else none) else (some (0, 0, 6))
def curve_First.l1 : Nat → List (S49) → List (S62) → Int → Int → Int → Option (Int × Int × Int)
  | 0, _, _, _, _, _ => none
  | k + 1, x0, x1, x6, x7, x8 => if x8 ≥ 0 then (if x8 < (x1.length : Int) then (if 0 ≤ x6 then (if x6 < (x1.length : Int) then ((curve_value.f k x0 (IntKind.u64.wrap (((rd_T62 x1 x6).f0) - ((rd_T62 x1 x8).f0)))).bind fun t189 => (if (wrap64 (x7 + ((rd_T62 x1 x8).f1))) > t189 then (some (x8, x6, 0)) else (curve_First.l1 k x0 x1 x6 (wrap64 (x7 + ((rd_T62 x1 x8).f1))) (wrap64 (x8 - 1))))) else (none)) else (none)) else (none)) else (curve_First.l0 k x0 x1 (wrap64 (x6 + 1)))
end
def curve_First.f (k : Nat) (l0 : List (S49)) (l1 : List (S62)) : Option (Int × Int × Int) := (curve_both.f k l0 l1).bind fun e => if e = 0 then (if l1.length ≤ 60 then curve_First.l0 k l0 l1 0 else none) else some (0, 0, e)
set_option maxHeartbeats 8000000 in
set_option maxRecDepth 100000 in
theorem curve_First.calls (k : Nat) (A0 : Option Addr) (c0 : Nat) (l0 : List (S49)) (A1 : Option Addr) (c1 : Nat) (l1 : List (S62)) (r1 : Int) (r2 : Int) (r3 : Int) (w : World) (hr0 : Kd.C k49 w A0 l0.length l0) (hc0 : l0.length ≤ c0) (hr1 : Kd.C k62 w A1 l1.length l1) (hc1 : l1.length ≤ c1) (h : curve_First.f k l0 l1 = some (r1, r2, r3)) :
  Calls Try.prog 14 #[.slice A0 l0.length c0, .slice A1 l1.length c1] w fun e w' => e = .returned (.tuple #[.int .i64 r1, .int .i64 r2, .int .i64 r3]) ∧ Below w.heap.size w w' := by
 have hu62 := Try.underlying62
 have HR0 := Aside0.mk hr0
 have HC0 := Aside0.mk hc0
 clear hr0 hc0
 have HR1 := Aside0.mk hr1
 have HC1 := Aside0.mk hc1
 clear hr1 hc1
 have HB := Aside0.mk (Below.refl w.heap.size w)
 unfold curve_First.f at h
 obtain ⟨t, A3, H⟩ := bo_ h
 clear h
 by_cases c4 : t = 0
 ·rw [if_pos c4] at H
  have c4b0 : (t == 0) = true := beq_iff_eq.mpr c4
  have c4b1 : (t != 0) = false := bne_eq_false_iff_eq.mpr c4
  clear c4
  by_cases c5 : l1.length ≤ 60
  rotate_left
  ·rw [if_neg c5] at H; exact absurd H (by simp)
  rw [if_pos c5] at H
  have C5 := Aside0.mk c5
  clear c5
  have H' := Aside0.mk H
  clear H
  have hmm := @run_makeMap Try.prog
  go_enter Try.func14, Try.ntmps14
  go_wp2_with (first | ((with_reducible refine gate_callee (f := 32) rfl ?_); refine goesA_ (some 14) Try.func32 #[.slice A0 l0.length c0, .slice A1 l1.length c1] ?_; (with_reducible refine (curve_both.calls k _ _ l0 _ _ l1 t _ ?side1 ?side2 ?side3 ?side4 A3.out).mono ?_); (case side1 => exact HR0.out); (case side2 => exact HC0.out); (case side3 => exact HR1.out); (case side4 => exact HC1.out); rintro e w5 ⟨rfl, hb⟩; refine ⟨_, rfl, ?_⟩; replace HB := bs_ w hb; clear hb))
  clear hmm
  obtain ⟨gB, hgB⟩ : ∃ g : Nat, g = w5.heap.size := ⟨_, rfl⟩
  have FO := Aside0.mk (fmO_made w5)
  have GB : Aside0 (w.heap.size ≤ gB) := ⟨by rw [hgB]; exact below_size HB.out⟩
  replace HB := Aside0.mk (below_alloc HB.out (.map #[] 0))
  generalize w5.alloc (.map #[] 0) = w6 at FO HB ⊢
  rw [← hgB] at FO ⊢
  clear hgB
  go_loopg [21] k (fun kq v21 w' => ∃ (x6_1 : Int), v21 = .int .i64 x6_1 ∧ Aside0 (curve_First.l0 kq l0 l1 x6_1 = some (r1, r2, r3)) ∧ Aside0 (kq ≤ k) ∧ Aside0 (fmO w' gB (61 * x6_1)) ∧ Aside0 (Below w.heap.size w w'))
  case atStart => exact ⟨(0), rf_, H', ⟨Nat.le_refl _⟩, FO, bw_⟩
  case round =>
   clear H'
   obtain ⟨x6_1, rfl, HA, HK1, FO, HB⟩ := hrel
   cases gk with
   | zero => exact absurd HA.out (by simp [curve_First.l0])
   | succ k1 =>
    have H := HA.out
    clear HA
    simp only [curve_First.l0] at H
    by_cases c3 : x6_1 < (l1.length : Int)
    ·rw [if_pos c3] at H
     have c3b0 : decide (x6_1 < (l1.length : Int)) = true := decide_eq_true c3
     by_cases c0' : 0 ≤ x6_1
     rotate_left
     ·rw [if_neg c0'] at H; exact absurd H (by simp)
     rw [if_pos c0'] at H
     have J : Aside0 (0 ≤ x6_1 ∧ x6_1 < 60) := ⟨⟨c0', by have := C5.out; omega⟩⟩
     clear c3 c0'
     have H' := Aside0.mk H
     clear H
     go_wp2
     go_loopg [10] k1 (fun kq v10 w' => ∃ (x7_2 : Int) (x8_2 : Int), v10 = .int .i64 x8_2 ∧ Aside0 (curve_First.l1 kq l0 l1 x6_1 x7_2 x8_2 = some (r1, r2, r3)) ∧ Aside0 (kq ≤ k1) ∧ Aside0 (x8_2 ≤ x6_1 ∧ -1 ≤ x8_2) ∧ Aside0 (fmI w' gB (61 * x6_1 + (x6_1 - x8_2)) x8_2 x6_1 x7_2) ∧ Aside0 (Below w.heap.size w w'))
     case atStart => exact ⟨(0), (x6_1), rf_, H', ⟨Nat.le_refl _⟩, ⟨⟨Int.le_refl _, by have := J.out; omega⟩⟩, ⟨by rw [Int.sub_self, Int.add_zero]; exact fmO_I FO.out J.out.1 (by have := J.out; omega)⟩, bw_⟩
     case round =>
      clear H' FO
      try clear c3b0
      obtain ⟨x7_2, x8_2, rfl, HA, HK2, JJ, FI, HB⟩ := hrel
      cases gk with
      | zero => exact absurd HA.out (by simp [curve_First.l1])
      | succ k2 =>
       have H := HA.out
       clear HA
       simp only [curve_First.l1] at H
       by_cases c4 : x8_2 ≥ 0
       ·rw [if_pos c4] at H
        have c4b0 : decide (0 ≤ x8_2) = true := decide_eq_true c4
        have c5b0 : decide (0 ≤ x8_2) = true := c4b0
        have C4 := Aside0.mk c4
        clear c4
        by_cases c6 : x8_2 < (l1.length : Int)
        rotate_left
        ·rw [if_neg c6] at H; exact absurd H (by simp)
        rw [if_pos c6] at H
        have c6b0 : decide (x8_2 < (l1.length : Int)) = true := decide_eq_true c6
        clear c6
        by_cases c7 : 0 ≤ x6_1
        rotate_left
        ·rw [if_neg c7] at H; exact absurd H (by simp)
        rw [if_pos c7] at H
        have c7b0 : decide (0 ≤ x6_1) = true := decide_eq_true c7
        clear c7
        by_cases c8 : x6_1 < (l1.length : Int)
        rotate_left
        ·rw [if_neg c8] at H; exact absurd H (by simp)
        rw [if_pos c8] at H
        have c8b0 : decide (x6_1 < (l1.length : Int)) = true := decide_eq_true c8
        clear c8
        obtain ⟨t189, A9, H⟩ := bo_ H
        try dsimp only at H
        have HH := Aside0.mk H
        clear H
        have p186 : 0 ≤ (x8_2 : Int) := of_decide_eq_true (by first | (with_reducible assumption) | assumption)
        have q186 : x8_2 < (l1.length : Int) := of_decide_eq_true (by first | (with_reducible assumption) | assumption)
        obtain ⟨ad186, e186, hx186_0, hx186_1⟩ := at_T62 HR1.out x8_2 p186 q186
        cases e186
        have hw188_0 := Aside0.mk hx186_0
        have hw188_1 := Aside0.mk hx186_1
        replace p186 := eq_true p186
        replace q186 := eq_true q186
        have p187 : 0 ≤ (x6_1 : Int) := of_decide_eq_true (by first | (with_reducible assumption) | assumption)
        have q187 : x6_1 < (l1.length : Int) := of_decide_eq_true (by first | (with_reducible assumption) | assumption)
        obtain ⟨ad187, e187, hx187_0, hx187_1⟩ := at_T62 HR1.out x6_1 p187 q187
        obtain rfl : ad186 = ad187 := (by injection e187)
        have hw187_0 := Aside0.mk hx187_0
        have hw187_1 := Aside0.mk hx187_1
        clear hx187_0 hx187_1 hx186_0 hx186_1
        replace p187 := eq_true p187
        replace q187 := eq_true q187
        try go_wp2
        replace HB := Aside0.mk (below_drew1 HB.out)
        replace FI := Aside0.mk (fmI_drew FI.out)
        refine start_ (n := 13) (S := fun w' => w'.cell? ⟨(ad186.add ((x8_2).toNat * 2)).block, (ad186.add ((x8_2).toNat * 2)).off + 1, none⟩ = some (.int .i64 ((rd_T62 l1 x8_2).f1)) ∧ (Instr.lookup 69 (.map (some gB)) (.agg #[.int .i64 (wrap64 (x8_2 + 1)), .int .i64 x6_1]) false).run Try.prog w' = .ok (.int .i64 x7_2) w') (ds := []) (bl_ 13 0) (by kernel_rfl) rfl (by kernel_rfl) ⟨((HB.out.cell (World.block_lt_of_cell? w _ hw188_1.out)).trans hw188_1.out), fmI_look FI.out C4.out (by have := J.out; have := JJ.out; omega) J.out.1 (by have := J.out; omega)⟩ (fun hHeld => ?_)
        refine with_tabW (T := rtab .any (opsOf Try.f14 11)) (B := [0, 0, 2, 0, 14, 31, 0, 0, 192, 448, 960, 2047, 4095]) rfl (by kernel_rfl) (fun HT_ HW_ => ?_)
        generalize wr.drew = w11 at HB FI hHeld ⊢
        refine pa_ 0 (some 29) (bl_ 13 1) HT_ ?_
        refine pa_ 1 (some 30) (bl_ 13 3) HT_ ?_
        refine pa_ 2 (some 31) (bl_ 13 7) HT_ ?_
        refine pa_ 3 (some 32) (bl_ 13 15) HT_ ?_
        refine pa_ 4 (some 33) (bl_ 13 31) HT_ ?_
        refine pa_ 6 (some 35) (bl_ 13 95) HT_ ?_
        refine pa_ 7 (some 36) (bl_ 13 223) HT_ ?_
        refine pa_ 8 (some 37) (bl_ 13 479) HT_ ?_
        refine pa_ 9 (some 38) (bl_ 13 991) HT_ ?_
        refine ta_ 5 (some 34) (bl_ 13 1023) HT_ HW_ hHeld ?_
        refine ta_ 10 (some 39) (bl_ 13 2047) HT_ HW_ hHeld ?_
        refine pa_ 11 (some 40) (bl_ 13 4095) HT_ ?_
        refine pa_ 12 (some 11) (bl_ 13 8191) HT_ ?_
        refine done_ (done_of HT_.out (by kernel_rfl)) ?_
        clear HT_ HW_ hHeld
        obtain ⟨mm, DD, HO, HM, HL, HE⟩ := FI.out
        have HO := Aside0.mk HO
        have HM := Aside0.mk HM
        have HL := Aside0.mk HL
        clear HE FI
        go_wp2_with (first | (at_mapUpdate; refine wpList_mapUpdate_own _ rfl _ _ _ 69 rfl 70 2 fm_law Try.underlying69 _ gB mm _ rfl HO.out (by have := HM.out; have := J.out; have := JJ.out; have := C4.out; unfold maxLen; omega) _ _ _ rfl rfl (fm_key (a := x8_2) (b := x6_1) (by have := J.out; have := JJ.out; have := C4.out; exact ⟨by omega, by omega⟩) (by have := J.out; exact ⟨by omega, by omega⟩)) _ [] (plainElem_int Try.underlying2 (wrap64_wf _)) ?_; intro w12 hown hgrow; have FI : Aside0 (fmI w12 gB (61 * x6_1 + (x6_1 - (x8_2 - 1))) (x8_2 - 1) x6_1 (wrap64 (x7_2 + ((rd_T62 l1 x8_2).f1)))) := ⟨by rw [show 61 * x6_1 + (x6_1 - (x8_2 - 1)) = 61 * x6_1 + (x6_1 - x8_2) + 1 from by omega]; exact fmI_put hown (fm_isMap HO.out) HM.out HL.out C4.out JJ.out.1 (by have := J.out; omega)⟩; replace HB := Aside0.mk (HB.out.grown hgrow (below_size HB.out) (fun j hj => by cases hj; exact GB.out)); clear hown hgrow HO HM HL))
        replace HB := Aside0.mk (below_drew1 HB.out)
        replace FI := Aside0.mk (fmI_drew FI.out)
        have hw187 := And.intro ((HB.out.cell (World.block_lt_of_cell? w _ hw187_0.out)).trans hw187_0.out) ((HB.out.cell (World.block_lt_of_cell? w _ hw188_0.out)).trans hw188_0.out)
        refine start_ (n := 15) (S := fun w' => w'.cell? (ad186.add ((x6_1).toNat * 2)) = some (.int .u64 ((rd_T62 l1 x6_1).f0)) ∧ w'.cell? (ad186.add ((x8_2).toNat * 2)) = some (.int .u64 ((rd_T62 l1 x8_2).f0))) (ds := []) (bl_ 15 0) (by kernel_rfl) rfl (by kernel_rfl) hw187 (fun hHeld => ?_)
        refine with_tabW (T := rtab .any (opsOf Try.f14 13)) (B := [0, 0, 0, 0, 12, 28, 60, 0, 0, 384, 896, 1920, 4092, 8190, 16383]) rfl (by kernel_rfl) (fun HT_ HW_ => ?_)
        generalize w12.drew = w13 at HB FI hHeld ⊢
        clear hw187
        refine pa_ 0 (some 46) (bl_ 15 1) HT_ ?_
        refine pa_ 1 (some 47) (bl_ 15 3) HT_ ?_
        refine pa_ 2 (some 48) (bl_ 15 7) HT_ ?_
        refine pa_ 3 (some 49) (bl_ 15 15) HT_ ?_
        refine pa_ 4 (some 50) (bl_ 15 31) HT_ ?_
        refine pa_ 5 (some 51) (bl_ 15 63) HT_ ?_
        refine pa_ 7 (some 53) (bl_ 15 191) HT_ ?_
        refine pa_ 8 (some 54) (bl_ 15 447) HT_ ?_
        refine pa_ 9 (some 55) (bl_ 15 959) HT_ ?_
        refine pa_ 10 (some 56) (bl_ 15 1983) HT_ ?_
        refine ta_ 6 (some 52) (bl_ 15 2047) HT_ HW_ hHeld ?_
        refine ta_ 11 (some 57) (bl_ 15 4095) HT_ HW_ hHeld ?_
        refine pa_ 12 (some 58) (bl_ 15 8191) HT_ ?_
        refine oa_ 13 (some 59) (bl_ 15 16383) HT_ fun K hK => ?_
        refine goesB_ Try.func28 #[.slice A0 l0.length c0, .int .u64 (IntKind.u64.wrap (((rd_T62 l1 x6_1).f0) - ((rd_T62 l1 x8_2).f0)))] ?_
        with_reducible refine (curve_value.calls k2 _ _ l0 (IntKind.u64.wrap (((rd_T62 l1 x6_1).f0) - ((rd_T62 l1 x8_2).f0))) t189 _ ?side1 ?side2 A9.out).mono ?_
        (case side1 => exact cs_ HR0 HB)
        (case side2 => exact HC0.out)
        rintro e w14 ⟨rfl, hb⟩
        refine ⟨_, rfl, ?_⟩
        replace FI := Aside0.mk (fmI_below FI.out hb)
        replace HB := bs_ w hb
        clear hb
        refine hK.out _ _ ⟨((HB.out.cell (World.block_lt_of_cell? w _ hw187_0.out)).trans hw187_0.out), ((HB.out.cell (World.block_lt_of_cell? w _ hw188_0.out)).trans hw188_0.out)⟩ (fun hHeld => ?_)
        clear hK K
        refine nm_ (some 59) ?_
        refine pa_ 14 (some 60) (bl_ 15 32767) HT_ ?_
        refine done_ (done_of HT_.out (by kernel_rfl)) ?_
        clear HT_ HW_ hHeld
        have H := HH.out
        clear HH
        by_cases c10 : (wrap64 (x7_2 + ((rd_T62 l1 x8_2).f1))) > t189
        ·rw [if_pos c10] at H
         have c10b0 : decide (t189 < (wrap64 (x7_2 + ((rd_T62 l1 x8_2).f1)))) = true := decide_eq_true c10
         clear c10
         (first | rw [c10b0] | (simp only [i64_w, i32_w]; rw [c10b0]) | skip)
         simp only [Option.some.injEq, Prod.mk.injEq] at H
         obtain ⟨rfl, rfl, rfl⟩ := H
         go_wp2
         go_ret3
         exact fi_
        ·rw [if_neg c10] at H
         have c10b0 : decide (t189 < (wrap64 (x7_2 + ((rd_T62 l1 x8_2).f1)))) = false := decide_eq_false c10
         clear c10
         (first | rw [c10b0] | (simp only [i64_w, i32_w]; rw [c10b0]) | skip)
         have H' := Aside0.mk H
         clear H
         have ew : Aside0 (wrap64 (x8_2 - 1) = x8_2 - 1) := ⟨by have := C4.out; have := JJ.out; have := J.out; unfold wrap64; omega⟩
         go_wp2
         go_roundg k2
         case measure => have := HK1.out; have := HK2.out; omega
         case rel => exact ⟨(wrap64 (x7_2 + ((rd_T62 l1 x8_2).f1))), (wrap64 (x8_2 - 1)), rf_, H', ⟨by have := HK1.out; have := HK2.out; omega⟩, ⟨by rw [ew.out]; have := JJ.out; have := C4.out; omega⟩, ⟨by rw [ew.out]; exact FI.out⟩, bw_⟩
       ·rw [if_neg c4] at H
        have c4b0 : decide (0 ≤ x8_2) = false := decide_eq_false c4
        have C4 := Aside0.mk c4
        clear c4
        have H' := Aside0.mk H
        clear H
        have ew : Aside0 (wrap64 (x6_1 + 1) = x6_1 + 1) := ⟨by have := J.out; unfold wrap64; omega⟩
        go_wp2
        go_roundg k2
        case measure => have := HK1.out; have := HK2.out; omega
        case rel => exact ⟨(wrap64 (x6_1 + 1)), rf_, H', ⟨by have := HK1.out; have := HK2.out; omega⟩, ⟨by rw [ew.out]; exact fmI_O FI.out (by have := JJ.out; have := C4.out; have := J.out; omega)⟩, bw_⟩
    ·rw [if_neg c3] at H
     have c3b0 : decide (x6_1 < (l1.length : Int)) = false := decide_eq_false c3
     clear c3
     simp only [Option.some.injEq, Prod.mk.injEq] at H
     obtain ⟨rfl, rfl, rfl⟩ := H
     go_wp2
     go_ret3
     exact fi_
 ·rw [if_neg c4] at H
  have c4b0 : (t == 0) = false := beq_eq_false_iff_ne.mpr c4
  have c4b1 : (t != 0) = true := bne_iff_ne.mpr c4
  clear c4
  simp only [Option.some.injEq, Prod.mk.injEq] at H
  obtain ⟨rfl, rfl, rfl⟩ := H
  go_enter Try.func14, Try.ntmps14
  go_wp2_with (first | ((with_reducible refine gate_callee (f := 32) rfl ?_); refine goesA_ (some 14) Try.func32 #[.slice A0 l0.length c0, .slice A1 l1.length c1] ?_; (with_reducible refine (curve_both.calls k _ _ l0 _ _ l1 t _ ?side1 ?side2 ?side3 ?side4 A3.out).mono ?_); (case side1 => exact HR0.out); (case side2 => exact HC0.out); (case side3 => exact HR1.out); (case side4 => exact HC1.out); rintro e w5 ⟨rfl, hb⟩; refine ⟨_, rfl, ?_⟩; replace HB := bs_ w hb; clear hb))
  go_ret3
  exact fi_

end Go.Proofs.Ytimhghmfhfggoaa.X
