-- written by xprint.py, a program of this session over the kit's print
import Derived.Test.YtimhghmfhfggoaaX0
namespace Go.Proofs.Ytimhghmfhfggoaa.X
open Go.RowKit Go.Proofs.YtimhghmfhfggoaaW.PrintWords Go.Proofs.YtimhghmfhfggoaaW.PrintLast Go.Proofs.YtimhghmfhfggoaaW.PrintMore
attribute [local go_sem] max2_int min2_int max_two min_two max_three min_three max_four min_four   -- for this text's walks alone
set_option linter.unusedVariables false
set_option linter.unusedSimpArgs false

theorem run_append_make_nil {P : Program} (w : World) (t ty e ti : TypeId) (i : TypeInfo) (z : Value) (ht : P.underlying t = some (.slice e)) (hti : P.underlying ti = some (.int .i64)) (hi : P.info? e = some i) (hz : i.zero = some z) (hs : 0 < i.size) (m : Nat) (h0 : 0 < m) (h63 : m ≤ 1000000) (h48 : m * i.bytes ≤ 281474976710656) :
    (Builtin.append_ #[t, ti] ty #[.slice none 0 0, .int .i64 m]).run P w = .ok (.slice (some ⟨w.heap.size, 0, none⟩) m (grownCap w m 0 e)) (w.drew.alloc (.cells (Builtin.zeroCells z.cells m ++ Builtin.zeroCells z.cells (grownCap w m 0 e - m)) e)) := by
  have hn : m ≠ 0 := by omega
  have h63' : ¬ (9223372036854775807 < (m : Int)) := by omega
  have h48' : ¬ (281474976710656 < Builtin.nextslicecap m 0 * i.bytes) := by rw [nextslicecap_zero h0]; omega
  have hw : IntKind.i64.wrap (m : Int) = (m : Int) := by simp only [i64_w]; unfold wrap64; omega
  have hneg : ¬ ((m : Int) < 0) := by omega
  have hb : ¬ (281474976710656 < (m : Int) * (i.bytes : Int)) := by
    have : (m : Int) * (i.bytes : Int) = ((m * i.bytes : Nat) : Int) := by simp
    omega
  have hsz : ¬ (m = 0 ∨ i.size = 0) := by omega
  have hmz : ¬ (m * i.size = 0) := by rw [Nat.mul_eq_zero]; exact hsz
  simp [Builtin.append_, run_underlying ht, run_underlying hti, sizeOf, typeInfo, zeroValue, hi, hz, hn, h63', h48', hw, hneg, hb, hsz, hmz, asInt, asIntOf, Question.forced, run_firstCells_none, newRow, grownCap]
theorem wp_append_make_nil {P : Program} {o : Oper} {a : Act} {K : Act → World → Prop} {Q : Exit → Act → World → Prop} {w : World} (s x : Operand) (t e ti : TypeId)
    (ho : o.op = .call { callee := .builtin .append, args := #[s, x], argTypes := #[t, ti] }) (i : TypeInfo) (z : Value) (ht : P.underlying t = some (.slice e)) (hti : P.underlying ti = some (.int .i64)) (hi : P.info? e = some i) (hz : i.zero = some z) (hs : 0 < i.size) (hzs : z.cells.size = i.size)
    (m : Nat) (h0 : 0 < m) (h63 : m ≤ 1000000) (h48 : m * i.bytes ≤ 281474976710656) (hs0 : a.eval s = .slice none 0 0) (hx : a.eval x = .int .i64 m)
    (h : ∀ cap w', w'.ownsRow w.heap.size e i.size (.slice (some ⟨w.heap.size, 0, none⟩) 0 cap) 0 [] → Below w.heap.size w w' → K (a.put o.dst (.slice (some ⟨w.heap.size, 0, none⟩) m cap)) w') : o.wp P a w K Q := by
  have hr := run_append_make_nil (P := P) w t o.type e ti i z ht hti hi hz hs m h0 h63 h48
  unfold Oper.wp execOp
  simp only [ho, resolve, invoke, builtin, Sem.run_bind, Sem.run_pure, Result.andThen_ok, List.map_toArray, List.map_cons, List.map_nil, hs0, hx, hr]
  have hge := grownCap_ge w m 0 e
  refine h _ _ ⟨by simp, .inr ⟨w.heap.size, _, _, rfl, Nat.le_refl _, heap_alloc_new w.drew _, Nat.zero_le _, grownCap_le_maxLen w m 0 e (by unfold maxLen; omega), ?_, ?_⟩⟩ (below_alloc (below_drew (Below.refl _ _)) _)
  · simp only [Array.size_append, size_zeroCells, hzs, ← Nat.add_mul]
    congr 1
    omega
  · simp
def slices_Grow_api_Charge.f (l0 : List S62) (a1 : Int) : Option (List S62) := if l0.length = 0 then (if 0 ≤ a1 then (if a1 ≤ 1000000 then some [] else none) else none) else none
set_option maxHeartbeats 2000000 in
set_option maxRecDepth 100000 in
theorem slices_Grow_api_Charge.calls (A0 : Option Addr) (c0 : Nat) (l0 : List S62) (a1 : Int) (r : List S62) (w : World) (hr0 : A0 = none) (hc0 : c0 = 0) (h : slices_Grow_api_Charge.f l0 a1 = some r) :
  Calls Try.prog 61 #[.slice A0 l0.length c0, .int .i64 a1] w fun e w' => ∃ v0_ : Value, e = .returned v0_ ∧ Kd.R k62 62 w' w.heap.size (fun _ => True) v0_ r ∧ Below w.heap.size w w' := by
  subst hr0
  subst hc0
  unfold slices_Grow_api_Charge.f at h
  by_cases c0 : l0.length = 0
  · rw [if_pos c0] at h
    by_cases c1 : 0 ≤ a1
    · rw [if_pos c1] at h
      by_cases c2 : a1 ≤ 1000000
      · rw [if_pos c2] at h
        obtain rfl := Option.some.inj h
        clear h
        obtain ⟨m, rfl⟩ : ∃ m : Nat, a1 = (m : Int) := ⟨a1.toNat, by omega⟩
        rw [c0]
        have c3 : decide ((m : Int) < 0) = false := decide_eq_false (by omega)
        have ew : wrap64 ((m : Int) - wrap64 (0 - 0)) = (m : Int) := by unfold wrap64; omega
        have ew2 : wrap64 ((m : Int) - 0) = (m : Int) := by unfold wrap64; omega
        obtain ⟨i0, hi, hz0, hz1, hz2⟩ := info_parts info62
        by_cases c4 : 0 < m
        · have c5 : (0 : Int) < (m : Int) := by omega
          go_enter Try.func61, Try.ntmps61
          go_wp2_with (first | ((with_reducible refine gate_dst (N := 22) rfl ?_); refine wpList_plain rfl fun K hK => wp_append_make_nil (.tmp 20) (.tmp 21) 23 62 3 rfl i0 _ Try.underlying23 Try.underlying3 hi hz0 (by omega) (by rw [hz1]; rfl) m c4 (by omega) (by rw [hz2]; omega) rfl rfl ?_; intro cap w' ho hb; refine hK _ _ ?_; clear hK K))
          go_ret
          rw [hz1] at ho
          exact ⟨_, rfl, ⟨fun _ _ => trivial, [], ho, Reps.none _ _⟩, hb⟩
        · obtain rfl : m = 0 := by omega
          go_enter Try.func61, Try.ntmps61
          go_wp2
          go_ret
          exact ⟨_, rfl, Kd.R_nil _ _ _ _ _, Below.refl _ _⟩
      · rw [if_neg c2] at h; cases h
    · rw [if_neg c1] at h; cases h
  · rw [if_neg c0] at h; cases h

end Go.Proofs.Ytimhghmfhfggoaa.X
