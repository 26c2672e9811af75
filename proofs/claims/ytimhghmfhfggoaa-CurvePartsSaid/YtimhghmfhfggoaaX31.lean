-- written by xprint.py, a program of this session over the kit's print
import Derived.Test.YtimhghmfhfggoaaX0
namespace Go.Proofs.Ytimhghmfhfggoaa.X
open Go.RowKit Go.Proofs.YtimhghmfhfggoaaW.PrintWords Go.Proofs.YtimhghmfhfggoaaW.PrintLast Go.Proofs.YtimhghmfhfggoaaW.PrintMore
attribute [local go_sem] max2_int min2_int max_two min_two max_three min_three max_four min_four   -- for this text's walks alone
set_option linter.unusedVariables false
set_option linter.unusedSimpArgs false

/-- A bucket in memory reads the same where the old memory is the same. -/
def levels_holds.f (l0 : List (S51)) (a1 : Int) : Option (Bool) := some (!(l0.any fun b => decide (b.f1 < a1)))
set_option maxHeartbeats 2000000 in
theorem levels_holds.lit (x0 x1 x2 x3 x4 x5 c : Int) (g : Nat) (w : World) (hc : w.cell? ⟨g, 0, none⟩ = some (.int .i64 c)) :
  Calls Try.prog 84 #[.agg #[.int .i64 x0, .int .i64 x1, .int .i64 x2, .int .i64 x3, .int .i64 x4, .int .u64 x5], .pointer (some ⟨g, 0, none⟩)] w fun e w' => e = .returned (.bool (decide (x3 < c))) ∧ Below w.heap.size w w' := by
  have hlt := World.block_lt_of_cell? w _ hc
  have hne : g ≠ w.heap.size := Nat.ne_of_lt hlt
  have hb := Below.refl w.heap.size w
  go_enter Try.func84, Try.ntmps84
  go_wp2
  all_goals (go_ret; exact ⟨by simp_all, hb.alloc hb.size _⟩)
theorem levels_holds.step {l : List (S51)} {c x : Int} (h0 : 0 ≤ x) (h1 : x < (l.length : Int)) (h : ∀ b ∈ l.take x.toNat, ¬ b.f1 < c) (hx : ¬ (rd_T51 l x).f1 < c) : ∀ b ∈ l.take (x + 1).toNat, ¬ b.f1 < c := by
  have e : (x + 1).toNat = x.toNat + 1 := by omega
  have hl : x.toNat < l.length := by omega
  intro b hb
  rw [e, List.take_add_one, List.getElem?_eq_getElem hl] at hb
  rcases List.mem_append.1 hb with g | g
  · exact h b g
  · have g : b = l[x.toNat] := by simpa using g
    have hr : rd_T51 l x = l[x.toNat] := by unfold rd_T51; rw [List.getD_eq_getElem?_getD, List.getElem?_eq_getElem hl]; rfl
    rw [g, ← hr]
    exact hx
theorem levels_holds.hit {l : List (S51)} {c x : Int} (h0 : 0 ≤ x) (h1 : x < (l.length : Int)) (hx : (rd_T51 l x).f1 < c) : (l.any fun b => decide (b.f1 < c)) = true := by
  have hl : x.toNat < l.length := by omega
  have hr : rd_T51 l x = l[x.toNat] := by unfold rd_T51; rw [List.getD_eq_getElem?_getD, List.getElem?_eq_getElem hl]; rfl
  rw [hr] at hx
  exact List.any_eq_true.2 ⟨l[x.toNat], List.getElem_mem hl, decide_eq_true hx⟩
theorem levels_holds.miss {l : List (S51)} {c x : Int} (h1 : ¬ x < (l.length : Int)) (h : ∀ b ∈ l.take x.toNat, ¬ b.f1 < c) : (l.any fun b => decide (b.f1 < c)) = false := by
  rw [List.take_of_length_le (by omega)] at h
  rw [List.any_eq_false]
  intro b hb
  simpa using h b hb
set_option maxHeartbeats 8000000 in
set_option maxRecDepth 100000 in
theorem levels_holds.idx (A0 : Option Addr) (c0 : Nat) (l0 : List (S51)) (c : Int) (g : Nat) (w : World) (hr0 : Kd.C k51 w A0 l0.length l0) (hcap : w.cell? ⟨g, 0, none⟩ = some (.int .i64 c)) :
  Calls Try.prog 89 #[.slice A0 l0.length c0, .func (.func 84) #[] #[.pointer (some ⟨g, 0, none⟩)]] w fun e w' => (∃ i : Int, e = .returned (.int .i64 i) ∧ decide (0 ≤ i) = (l0.any fun b => decide (b.f1 < c))) ∧ Below w.heap.size w w' := by
 have hu := Try.underlying51
 have HR0 := Aside0.mk hr0
 have HCAP := Aside0.mk hcap
 clear hr0 hcap
 have HB := Aside0.mk (Below.refl w.heap.size w)
 have HL : l0.length ≤ 9223372036854775807 := HR0.out.2.1
 go_enter Try.func89, Try.ntmps89
 go_wp2
 go_loopg [8] l0.length (fun gg v8 w' => ∃ (x : Int), v8 = .int .i64 x ∧ Aside0 (0 ≤ x ∧ x ≤ (l0.length : Int) ∧ (l0.length : Int) - x ≤ gg) ∧ Aside0 (Below w.heap.size w w') ∧ Aside0 (∀ b ∈ l0.take x.toNat, ¬ b.f1 < c))
 case atStart => exact ⟨0, rfl, ⟨by omega, by omega, by omega⟩, HB, ⟨fun b hb => by simp at hb⟩⟩
 case round =>
  obtain ⟨x, rfl, HX, HB, HT⟩ := hrel
  by_cases c4 : x < (l0.length : Int)
  · have q0 : 0 ≤ x := HX.out.1
    obtain ⟨ad, e, hx0, hx1, hx2, hx3, hx4, hx5⟩ := at_T51 HR0.out x q0 c4
    cases e
    replace hx0 := (HB.out.cell (World.block_lt_of_cell? w _ hx0)).trans hx0
    replace hx1 := (HB.out.cell (World.block_lt_of_cell? w _ hx1)).trans hx1
    replace hx2 := (HB.out.cell (World.block_lt_of_cell? w _ hx2)).trans hx2
    replace hx3 := (HB.out.cell (World.block_lt_of_cell? w _ hx3)).trans hx3
    replace hx4 := (HB.out.cell (World.block_lt_of_cell? w _ hx4)).trans hx4
    replace hx5 := (HB.out.cell (World.block_lt_of_cell? w _ hx5)).trans hx5
    have LIT := Aside0.mk (levels_holds.lit (rd_T51 l0 x).f0.f0 (rd_T51 l0 x).f0.f1 (rd_T51 l0 x).f0.f2 (rd_T51 l0 x).f1 (rd_T51 l0 x).f2 (rd_T51 l0 x).f3 c g _ ((HB.out.cell (World.block_lt_of_cell? w _ HCAP.out)).trans HCAP.out))
    have P0 := Aside0.mk q0
    have P1 := Aside0.mk c4
    replace q0 := eq_true q0
    replace c4 := eq_true c4
    by_cases c5 : (rd_T51 l0 x).f1 < c
    · have HIT := Aside0.mk (levels_holds.hit P0.out P1.out c5)
      rw [decide_eq_true c5] at LIT
      clear c5
      go_wp2_with (first | ((with_reducible refine gate_calleeT (f := 84) rfl ?_); refine goesLC_ (some 16) rfl rfl Try.func84 (by kernel_rfl) rfl #[.agg #[.int .i64 (rd_T51 l0 x).f0.f0, .int .i64 (rd_T51 l0 x).f0.f1, .int .i64 (rd_T51 l0 x).f0.f2, .int .i64 (rd_T51 l0 x).f1, .int .i64 (rd_T51 l0 x).f2, .int .u64 (rd_T51 l0 x).f3]] rfl (lb := #[.pointer (some ⟨g, 0, none⟩)]) rfl (by (try simp only [List.map_toArray, List.map_cons, List.map_nil]); first | done | rfl) (full := #[.agg #[.int .i64 (rd_T51 l0 x).f0.f0, .int .i64 (rd_T51 l0 x).f0.f1, .int .i64 (rd_T51 l0 x).f0.f2, .int .i64 (rd_T51 l0 x).f1, .int .i64 (rd_T51 l0 x).f2, .int .u64 (rd_T51 l0 x).f3], .pointer (some ⟨g, 0, none⟩)]) rfl ?_; (refine LIT.out.mono ?_); rintro e w9 ⟨rfl, hb⟩; refine ⟨_, rfl, ?_⟩; replace HB := bs_ w hb; clear hb))
      go_ret
      exact ⟨⟨_, rfl, by rw [HIT.out]; exact decide_eq_true P0.out⟩, HB.out⟩
    · have MISS := Aside0.mk (levels_holds.step P0.out P1.out HT.out c5)
      rw [decide_eq_false c5] at LIT
      clear c5
      go_wp2_with (first | ((with_reducible refine gate_calleeT (f := 84) rfl ?_); refine goesLC_ (some 16) rfl rfl Try.func84 (by kernel_rfl) rfl #[.agg #[.int .i64 (rd_T51 l0 x).f0.f0, .int .i64 (rd_T51 l0 x).f0.f1, .int .i64 (rd_T51 l0 x).f0.f2, .int .i64 (rd_T51 l0 x).f1, .int .i64 (rd_T51 l0 x).f2, .int .u64 (rd_T51 l0 x).f3]] rfl (lb := #[.pointer (some ⟨g, 0, none⟩)]) rfl (by (try simp only [List.map_toArray, List.map_cons, List.map_nil]); first | done | rfl) (full := #[.agg #[.int .i64 (rd_T51 l0 x).f0.f0, .int .i64 (rd_T51 l0 x).f0.f1, .int .i64 (rd_T51 l0 x).f0.f2, .int .i64 (rd_T51 l0 x).f1, .int .i64 (rd_T51 l0 x).f2, .int .u64 (rd_T51 l0 x).f3], .pointer (some ⟨g, 0, none⟩)]) rfl ?_; (refine LIT.out.mono ?_); rintro e w9 ⟨rfl, hb⟩; refine ⟨_, rfl, ?_⟩; replace HB := bs_ w hb; clear hb))
      go_roundg (gk - 1)
      case measure => have := HX.out; have := P1.out; omega
      case rel =>
        have h1 := P0.out
        have h2 := P1.out
        have h3 := HX.out
        have ew : wrap64 (x + 1) = x + 1 := by unfold wrap64; omega
        exact ⟨wrap64 (x + 1), (by first | rfl | (simp; done) | (simp [*]; done)), ⟨by rw [ew]; exact ⟨by omega, by omega, by omega⟩⟩, HB, ⟨by rw [ew]; exact MISS.out⟩⟩
  · have MISS := Aside0.mk (levels_holds.miss c4 HT.out)
    replace c4 := eq_false c4
    go_wp2
    go_ret
    exact ⟨⟨_, rfl, by rw [MISS.out]; rfl⟩, HB.out⟩
set_option maxHeartbeats 8000000 in
set_option maxRecDepth 100000 in
theorem levels_holds.has (A0 : Option Addr) (c0 : Nat) (l0 : List (S51)) (c : Int) (g : Nat) (w : World) (hr0 : Kd.C k51 w A0 l0.length l0) (hcap : w.cell? ⟨g, 0, none⟩ = some (.int .i64 c)) :
  Calls Try.prog 83 #[.slice A0 l0.length c0, .func (.func 84) #[] #[.pointer (some ⟨g, 0, none⟩)]] w fun e w' => e = .returned (.bool (l0.any fun b => decide (b.f1 < c))) ∧ Below w.heap.size w w' := by
 have IDX := Aside0.mk (levels_holds.idx A0 c0 l0 c g w hr0 hcap)
 clear hr0 hcap
 go_enter Try.func83, Try.ntmps83
 go_wp2_with (go_at_call 89; (refine IDX.out.mono ?_); rintro e w9 ⟨⟨i, rfl, hi⟩, hb⟩)
 go_ret
 exact ⟨by rw [← hi]; first | rfl | (simp; done), hb⟩
set_option maxHeartbeats 8000000 in
set_option maxRecDepth 100000 in
theorem levels_holds.calls (A0 : Option Addr) (c0 : Nat) (l0 : List (S51)) (a1 : Int) (r : Bool) (w : World) (hr0 : Kd.C k51 w A0 l0.length l0) (hc0 : l0.length ≤ c0) (h : levels_holds.f l0 a1 = some r) :
  Calls Try.prog 72 #[.slice A0 l0.length c0, .int .i64 a1] w fun e w' => e = .returned (.bool r) ∧ Below w.heap.size w w' := by
 obtain rfl := Option.some.inj h
 have HB0 := Below.refl w.heap.size w
 have HAS := Aside0.mk (levels_holds.has A0 c0 l0 a1 w.heap.size (w.alloc (.cells #[.int .i64 a1] 2)) (Kd.C_alloc hr0 _) (by simp))
 clear hr0 hc0 h
 go_enter Try.func72, Try.ntmps72
 go_wp2_with (go_at_call 83; (refine HAS.out.mono ?_); rintro e w9 ⟨rfl, hb⟩)
 go_ret
 exact ⟨rfl, (HB0.alloc (Nat.le_refl _) _).trans (hb.mono (by simp))⟩

end Go.Proofs.Ytimhghmfhfggoaa.X
