-- written by xprint.py, a program of this session over the kit's print
import Derived.Test.YtbfdpodlnijeoaaX0
namespace Go.Proofs.Ytbfdpodlnijeoaa.X
open Go.RowKit Go.Proofs.YtbfdpodlnijeoaaW.PrintWords Go.Proofs.YtbfdpodlnijeoaaW.PrintLast Go.Proofs.YtbfdpodlnijeoaaW.PrintMore
attribute [local go_sem] max2_int min2_int max_two min_two max_three min_three max_four min_four   -- for this text's walks alone
set_option linter.unusedVariables false
set_option linter.unusedSimpArgs false

/-! ### lease_take_host: function 76 -/
/-- An interface value of the package lease: what it is (0: nil), the host, the number. -/
def ifv (t o n : Int) : Value :=
  if t = 0 then .nilIface else if t = 1 then .iface 74 (.agg #[.int .i64 o]) else if t = 2 then .iface 76 (.agg #[.int .i64 o, .int .i64 n])
  else if t = 3 then .iface 77 (.agg #[.int .i64 o]) else .iface 78 (.agg #[.int .i64 o])
theorem ifv_0 (o n : Int) : ifv 0 o n = .nilIface := rfl
theorem ifv_1 (o n : Int) : ifv 1 o n = .iface 74 (.agg #[.int .i64 o]) := rfl
theorem ifv_2 (o n : Int) : ifv 2 o n = .iface 76 (.agg #[.int .i64 o, .int .i64 n]) := rfl
theorem ifv_3 (o n : Int) : ifv 3 o n = .iface 77 (.agg #[.int .i64 o]) := rfl
theorem ifv_4 {t : Int} (o n : Int) (h0 : t ≠ 0) (h1 : t ≠ 1) (h2 : t ≠ 2) (h3 : t ≠ 3) : ifv t o n = .iface 78 (.agg #[.int .i64 o]) := by
  unfold ifv; rw [if_neg h0, if_neg h1, if_neg h2, if_neg h3]
theorem ifv_cases {P : Int → Prop} (t : Int) (h0 : P 0) (h1 : P 1) (h2 : P 2) (h3 : P 3) (h4 : t ≠ 0 → t ≠ 1 → t ≠ 2 → t ≠ 3 → P t) : P t := by
  by_cases c0 : t = 0
  · exact c0 ▸ h0
  · by_cases c1 : t = 1
    · exact c1 ▸ h1
    · by_cases c2 : t = 2
      · exact c2 ▸ h2
      · by_cases c3 : t = 3
        · exact c3 ▸ h3
        · exact h4 c0 c1 c2 c3
theorem ifv_nil (t o n : Int) (w : World) : (binOp .eql 67 (ifv t o n) .nilIface).run Try.prog w = .ok (.bool (t == 0)) w := by
  refine ifv_cases (P := fun t => (binOp .eql 67 (ifv t o n) .nilIface).run Try.prog w = .ok (.bool (t == 0)) w) t ?_ ?_ ?_ ?_ ?_
  · kernel_rfl
  · kernel_rfl
  · kernel_rfl
  · kernel_rfl
  · intro h0 h1 h2 h3
    rw [ifv_4 o n h0 h1 h2 h3, beq_eq_false_iff_ne.mpr h0]
    kernel_rfl
theorem ifv_guard (x : Tmp) (t o n : Int) (w : World) : (eqGuard .eql 67 (.tmp x) (.const .nilIface) (ifv t o n) .nilIface).run Try.prog w = .ok () w := by
  refine ifv_cases (P := fun t => (eqGuard .eql 67 (.tmp x) (.const .nilIface) (ifv t o n) .nilIface).run Try.prog w = .ok () w) t ?_ ?_ ?_ ?_ ?_
  · kernel_rfl
  · kernel_rfl
  · kernel_rfl
  · kernel_rfl
  · intro h0 h1 h2 h3
    rw [ifv_4 o n h0 h1 h2 h3]
    kernel_rfl
theorem ifv_as1 (t o n : Int) (w : World) (h : (t == 1) = true) : (Instr.typeAssert (ifv t o n) 67 74 true).run Try.prog w = .ok (.tuple #[.agg #[.int .i64 o], .bool true]) w := by
  obtain rfl := eq_of_beq h
  rw [ifv_1]; kernel_rfl
theorem ifv_as2 (t o n : Int) (w : World) (h : (t == 2) = true) : (Instr.typeAssert (ifv t o n) 67 76 true).run Try.prog w = .ok (.tuple #[.agg #[.int .i64 o, .int .i64 n], .bool true]) w := by
  obtain rfl := eq_of_beq h
  rw [ifv_2]; kernel_rfl
theorem ifv_as3 (t o n : Int) (w : World) (h : (t == 3) = true) : (Instr.typeAssert (ifv t o n) 67 77 true).run Try.prog w = .ok (.tuple #[.agg #[.int .i64 o], .bool true]) w := by
  obtain rfl := eq_of_beq h
  rw [ifv_3]; kernel_rfl
theorem ifv_as4 (t o n : Int) (w : World) (h0 : (t == 0) = false) (h1 : (t == 1) = false) (h2 : (t == 2) = false) (h3 : (t == 3) = false) : (Instr.typeAssert (ifv t o n) 67 78 true).run Try.prog w = .ok (.tuple #[.agg #[.int .i64 o], .bool true]) w := by
  rw [ifv_4 o n (beq_eq_false_iff_ne.mp h0) (beq_eq_false_iff_ne.mp h1) (beq_eq_false_iff_ne.mp h2) (beq_eq_false_iff_ne.mp h3)]; kernel_rfl
theorem ifv_no1 (t o n : Int) (w : World) (h : (t == 1) = false) : (Instr.typeAssert (ifv t o n) 67 74 true).run Try.prog w = .ok (.tuple #[.agg #[.int .i64 0], .bool false]) w := by
  revert h
  refine ifv_cases (P := fun t => (t == 1) = false → (Instr.typeAssert (ifv t o n) 67 74 true).run Try.prog w = .ok (.tuple #[.agg #[.int .i64 0], .bool false]) w) t (fun _ => by kernel_rfl) (fun h => by cases h) (fun _ => by kernel_rfl) (fun _ => by kernel_rfl) (fun h0 h1 h2 h3 _ => ?_)
  rw [ifv_4 o n h0 h1 h2 h3]; kernel_rfl
theorem ifv_no2 (t o n : Int) (w : World) (h : (t == 2) = false) : (Instr.typeAssert (ifv t o n) 67 76 true).run Try.prog w = .ok (.tuple #[.agg #[.int .i64 0, .int .i64 0], .bool false]) w := by
  revert h
  refine ifv_cases (P := fun t => (t == 2) = false → (Instr.typeAssert (ifv t o n) 67 76 true).run Try.prog w = .ok (.tuple #[.agg #[.int .i64 0, .int .i64 0], .bool false]) w) t (fun _ => by kernel_rfl) (fun _ => by kernel_rfl) (fun h => by cases h) (fun _ => by kernel_rfl) (fun h0 h1 h2 h3 _ => ?_)
  rw [ifv_4 o n h0 h1 h2 h3]; kernel_rfl
theorem ifv_no3 (t o n : Int) (w : World) (h : (t == 3) = false) : (Instr.typeAssert (ifv t o n) 67 77 true).run Try.prog w = .ok (.tuple #[.agg #[.int .i64 0], .bool false]) w := by
  revert h
  refine ifv_cases (P := fun t => (t == 3) = false → (Instr.typeAssert (ifv t o n) 67 77 true).run Try.prog w = .ok (.tuple #[.agg #[.int .i64 0], .bool false]) w) t (fun _ => by kernel_rfl) (fun _ => by kernel_rfl) (fun _ => by kernel_rfl) (fun h => by cases h) (fun h0 h1 h2 h3 _ => ?_)
  rw [ifv_4 o n h0 h1 h2 h3]; kernel_rfl
theorem ifv_mk1 (x : Value) (w : World) : (Instr.makeInterface 74 x).run Try.prog w = .ok (.iface 74 x) w := run_makeInterface w 74 x (by kernel_rfl)
theorem ifv_mk2 (x : Value) (w : World) : (Instr.makeInterface 76 x).run Try.prog w = .ok (.iface 76 x) w := run_makeInterface w 76 x (by kernel_rfl)
theorem ifv_mk3 (x : Value) (w : World) : (Instr.makeInterface 77 x).run Try.prog w = .ok (.iface 77 x) w := run_makeInterface w 77 x (by kernel_rfl)
theorem ifv_mk4 (x : Value) (w : World) : (Instr.makeInterface 78 x).run Try.prog w = .ok (.iface 78 x) w := run_makeInterface w 78 x (by kernel_rfl)
/-- A call of the method host. -/
def CallsI (P : Program) (v : Value) (w : World) (R : Ending → World → Prop) : Prop := ∃ f args, (callMethod v "spigot/lease.host" #[]).run P w = .ok (.enter f args) w ∧ Calls P f args w R
theorem CallsI.mono {P : Program} {v : Value} {w : World} {R R' : Ending → World → Prop} (h : CallsI P v w R) (k : ∀ e w', R e w' → R' e w') : CallsI P v w R' := by
  obtain ⟨f, args, h1, h2⟩ := h
  exact ⟨f, args, h1, h2.mono k⟩
section
variable {P : Program} {ops : Array Oper} {Q : Exit → Act → World → Prop}
theorem gate_invoke {W : World} {o : Oper} {t : Tmp} {m : String} {rest : List Oper} {a : Act} {opds : Array Operand} {ts : Array TypeId} (_ho : o.op = .call { callee := .invoke (.tmp t) m, args := opds, argTypes := ts }) (h : wpList P ops Q (o :: rest) a W) : wpList P ops Q (o :: rest) a W := h
theorem goesI_ {rest : List Oper} {oi : Oper} {a : Act} {w : World} (N : Option Tmp) (hd : oi.dst = N) (hg : oi.guard = none) {x : Tmp} (hop : oi.op = .call { callee := .invoke (.tmp x) "spigot/lease.host", args := #[], argTypes := #[] }) {t o n : Int} (hv : a.eval (.tmp x) = ifv t o n)
    (h : CallsI P (ifv t o n) w fun e w' => ∃ v, e = .returned v ∧ wpList P ops Q rest (a.put N v) w') : wpList P ops Q (oi :: rest) a w := by
  refine wpList_plain hg fun K hK => ?_
  obtain ⟨f, args, he, h⟩ := h
  have hrun : (execOp a.eval oi).run P w = .ok (.enter f args) w := by
    unfold execOp
    simp [hop, resolve, hv, invoke, he]
  unfold Oper.wp
  rw [hrun, Oper.upon_enter]
  refine h.mono fun e w'' hh => ?_
  obtain ⟨v, rfl, hk⟩ := hh
  subst hd
  exact hK _ _ hk
end
theorem host_1 (o : Int) (w : World) : Calls Try.prog 76 #[.agg #[.int .i64 o]] w fun e w' => e = .returned (.int .i64 o) ∧ Below w.heap.size w w' := by
  go_enter Try.func76, Try.ntmps76
  go_wp2
  go_ret
  exact ⟨rfl, below_alloc (Below.refl _ _) _⟩
theorem host_2 (o n : Int) (w : World) : Calls Try.prog 77 #[.agg #[.int .i64 o, .int .i64 n]] w fun e w' => e = .returned (.int .i64 o) ∧ Below w.heap.size w w' := by
  go_enter Try.func77, Try.ntmps77
  go_wp2
  go_ret
  exact ⟨rfl, below_alloc (Below.refl _ _) _⟩
theorem host_3 (o : Int) (w : World) : Calls Try.prog 78 #[.agg #[.int .i64 o]] w fun e w' => e = .returned (.int .i64 o) ∧ Below w.heap.size w w' := by
  go_enter Try.func78, Try.ntmps78
  go_wp2
  go_ret
  exact ⟨rfl, below_alloc (Below.refl _ _) _⟩
theorem host_4 (o : Int) (w : World) : Calls Try.prog 79 #[.agg #[.int .i64 o]] w fun e w' => e = .returned (.int .i64 o) ∧ Below w.heap.size w w' := by
  go_enter Try.func79, Try.ntmps79
  go_wp2
  go_ret
  exact ⟨rfl, below_alloc (Below.refl _ _) _⟩
def lease_take_host.f (t o n : Int) : Option Int := if t = 0 then none else some o
theorem lease_take_host.calls (t o n r1 : Int) (w : World) (h : lease_take_host.f t o n = some r1) : CallsI Try.prog (ifv t o n) w fun e w' => e = .returned (.int .i64 r1) ∧ Below w.heap.size w w' := by
  unfold lease_take_host.f at h
  by_cases c0 : t = 0
  · rw [if_pos c0] at h; cases h
  · rw [if_neg c0] at h
    obtain rfl := Option.some.inj h
    revert c0
    refine ifv_cases (P := fun t => t ≠ 0 → CallsI Try.prog (ifv t o n) w fun e w' => e = .returned (.int .i64 o) ∧ Below w.heap.size w w') t (fun h => absurd rfl h) (fun _ => ⟨76, #[.agg #[.int .i64 o]], by kernel_rfl, host_1 o w⟩) (fun _ => ⟨77, #[.agg #[.int .i64 o, .int .i64 n]], by kernel_rfl, host_2 o n w⟩) (fun _ => ⟨78, #[.agg #[.int .i64 o]], by kernel_rfl, host_3 o w⟩) (fun h0 h1 h2 h3 _ => ?_)
    rw [ifv_4 o n h0 h1 h2 h3]
    exact ⟨79, #[.agg #[.int .i64 o]], by kernel_rfl, host_4 o w⟩

/-! ### bucket_CheckLimit: function 54 -/
def bucket_CheckLimit.f (a0_0 : Int) (a0_1 : Int) (a0_2 : Int) : Option (Int) := if a0_0 < 1 then (some 8) else (if a0_0 > 1000000000 then (some 8) else (if a0_1 < 0 then (some 8) else (if a0_1 > 1000000000 then (some 8) else (if a0_2 < 1 then (some 8) else (if a0_2 > 1000000000 then (some 8) else (some 0))))))
set_option maxHeartbeats 8000000 in
set_option maxRecDepth 100000 in
theorem bucket_CheckLimit.calls (a0_0 : Int) (a0_1 : Int) (a0_2 : Int) (r : Int) (w : World) (h : bucket_CheckLimit.f a0_0 a0_1 a0_2 = some r) :
  Calls Try.prog 54 #[.agg #[.int .i64 a0_0, .int .i64 a0_1, .int .i64 a0_2]] w fun e w' => e = .returned (.int .i64 r) ∧ Below w.heap.size w w' := by
 have hu23 := Try.underlying23
 have HB := Aside0.mk (Below.refl w.heap.size w)
 have H : (if a0_0 < 1 then (some 8) else (if a0_0 > 1000000000 then (some 8) else (if a0_1 < 0 then (some 8) else (if a0_1 > 1000000000 then (some 8) else (if a0_2 < 1 then (some 8) else (if a0_2 > 1000000000 then (some 8) else (some 0))))))) = some r := h
 clear h
 by_cases c2 : a0_0 < 1
 ·rw [if_pos c2] at H
  have c2b0 : decide (a0_0 < 1) = true := decide_eq_true c2
  clear c2
  obtain rfl := Option.some.inj H
  go_enter Try.func54, Try.ntmps54
  go_wp2_with (first | ((with_reducible refine gate_dst (N := 1) rfl ?_); (try refine ug_ (by rfl) ?_); refine bx_ #[.int .i64 a0_0, .int .i64 a0_1, .int .i64 a0_2] 23 ?_; intro gb101 hg w3 BK101 hb; have GW101 := bz_ w hg; have GE101 := GW101; replace HB := bs_ w hb; clear hb hg; replace hc101 := ce3_ BK101))
  go_ret
  exact fi_
 ·rw [if_neg c2] at H
  have c2b0 : decide (a0_0 < 1) = false := decide_eq_false c2
  clear c2
  by_cases c5 : a0_0 > 1000000000
  ·rw [if_pos c5] at H
   have c5b0 : decide (1000000000 < a0_0) = true := decide_eq_true c5
   clear c5
   obtain rfl := Option.some.inj H
   go_enter Try.func54, Try.ntmps54
   go_wp2_with (first | ((with_reducible refine gate_dst (N := 1) rfl ?_); (try refine ug_ (by rfl) ?_); refine bx_ #[.int .i64 a0_0, .int .i64 a0_1, .int .i64 a0_2] 23 ?_; intro gb101 hg w6 BK101 hb; have GW101 := bz_ w hg; have GE101 := GW101; replace HB := bs_ w hb; clear hb hg; replace hc101 := ce3_ BK101))
   go_ret
   exact fi_
  ·rw [if_neg c5] at H
   have c5b0 : decide (1000000000 < a0_0) = false := decide_eq_false c5
   clear c5
   by_cases c8 : a0_1 < 0
   ·rw [if_pos c8] at H
    have c8b0 : decide (a0_1 < 0) = true := decide_eq_true c8
    clear c8
    obtain rfl := Option.some.inj H
    go_enter Try.func54, Try.ntmps54
    go_wp2_with (first | ((with_reducible refine gate_dst (N := 1) rfl ?_); (try refine ug_ (by rfl) ?_); refine bx_ #[.int .i64 a0_0, .int .i64 a0_1, .int .i64 a0_2] 23 ?_; intro gb101 hg w9 BK101 hb; have GW101 := bz_ w hg; have GE101 := GW101; replace HB := bs_ w hb; clear hb hg; replace hc101 := ce3_ BK101))
    go_ret
    exact fi_
   ·rw [if_neg c8] at H
    have c8b0 : decide (a0_1 < 0) = false := decide_eq_false c8
    clear c8
    by_cases c11 : a0_1 > 1000000000
    ·rw [if_pos c11] at H
     have c11b0 : decide (1000000000 < a0_1) = true := decide_eq_true c11
     clear c11
     obtain rfl := Option.some.inj H
     go_enter Try.func54, Try.ntmps54
     go_wp2_with (first | ((with_reducible refine gate_dst (N := 1) rfl ?_); (try refine ug_ (by rfl) ?_); refine bx_ #[.int .i64 a0_0, .int .i64 a0_1, .int .i64 a0_2] 23 ?_; intro gb101 hg w12 BK101 hb; have GW101 := bz_ w hg; have GE101 := GW101; replace HB := bs_ w hb; clear hb hg; replace hc101 := ce3_ BK101))
     go_ret
     exact fi_
    ·rw [if_neg c11] at H
     have c11b0 : decide (1000000000 < a0_1) = false := decide_eq_false c11
     clear c11
     by_cases c14 : a0_2 < 1
     ·rw [if_pos c14] at H
      have c14b0 : decide (a0_2 < 1) = true := decide_eq_true c14
      clear c14
      obtain rfl := Option.some.inj H
      go_enter Try.func54, Try.ntmps54
      go_wp2_with (first | ((with_reducible refine gate_dst (N := 1) rfl ?_); (try refine ug_ (by rfl) ?_); refine bx_ #[.int .i64 a0_0, .int .i64 a0_1, .int .i64 a0_2] 23 ?_; intro gb101 hg w15 BK101 hb; have GW101 := bz_ w hg; have GE101 := GW101; replace HB := bs_ w hb; clear hb hg; replace hc101 := ce3_ BK101))
      go_ret
      exact fi_
     ·rw [if_neg c14] at H
      have c14b0 : decide (a0_2 < 1) = false := decide_eq_false c14
      clear c14
      by_cases c17 : a0_2 > 1000000000
      ·rw [if_pos c17] at H
       have c17b0 : decide (1000000000 < a0_2) = true := decide_eq_true c17
       clear c17
       obtain rfl := Option.some.inj H
       go_enter Try.func54, Try.ntmps54
       go_wp2_with (first | ((with_reducible refine gate_dst (N := 1) rfl ?_); (try refine ug_ (by rfl) ?_); refine bx_ #[.int .i64 a0_0, .int .i64 a0_1, .int .i64 a0_2] 23 ?_; intro gb101 hg w18 BK101 hb; have GW101 := bz_ w hg; have GE101 := GW101; replace HB := bs_ w hb; clear hb hg; replace hc101 := ce3_ BK101))
       go_ret
       exact fi_
      ·rw [if_neg c17] at H
       have c17b0 : decide (1000000000 < a0_2) = false := decide_eq_false c17
       clear c17
       obtain rfl := Option.some.inj H
       go_enter Try.func54, Try.ntmps54
       go_wp2_with (first | ((with_reducible refine gate_dst (N := 1) rfl ?_); (try refine ug_ (by rfl) ?_); refine bx_ #[.int .i64 a0_0, .int .i64 a0_1, .int .i64 a0_2] 23 ?_; intro gb101 hg w20 BK101 hb; have GW101 := bz_ w hg; have GE101 := GW101; replace HB := bs_ w hb; clear hb hg; replace hc101 := ce3_ BK101))
       go_ret
       exact fi_

/-! ### bucket_Check: function 42 -/
def bucket_Check.f (a0_0 : Int) (a0_1 : Int) (a0_2 : Int) (a0_3 : Int) (a0_4 : Int) (a0_5 : Int) : Option (Int) := (bucket_CheckLimit.f a0_0 a0_1 a0_2).bind fun t103 => (if t103 = 0 then (if a0_3 < 0 then (some 8) else (if (wrap64 (a0_0 - a0_3)) < 0 then (some 8) else (if a0_4 < 0 then (some 8) else (if a0_4 ≥ a0_2 then (some 8) else (if (wrap64 (a0_0 - a0_3)) = 0 then (if a0_4 > 0 then (some 8) else (some 0)) else (some 0)))))) else (some t103))
set_option maxHeartbeats 8000000 in
set_option maxRecDepth 100000 in
theorem bucket_Check.calls (a0_0 : Int) (a0_1 : Int) (a0_2 : Int) (a0_3 : Int) (a0_4 : Int) (a0_5 : Int) (r : Int) (w : World) (h : bucket_Check.f a0_0 a0_1 a0_2 a0_3 a0_4 a0_5 = some r) :
  Calls Try.prog 42 #[.agg #[.int .i64 a0_0, .int .i64 a0_1, .int .i64 a0_2, .int .i64 a0_3, .int .i64 a0_4, .int .u64 a0_5]] w fun e w' => e = .returned (.int .i64 r) ∧ Below w.heap.size w w' := by
 have hu26 := Try.underlying26
 have hu23 := Try.underlying23
 have HB := Aside0.mk (Below.refl w.heap.size w)
 have H : ((bucket_CheckLimit.f a0_0 a0_1 a0_2).bind fun t103 => (if t103 = 0 then (if a0_3 < 0 then (some 8) else (if (wrap64 (a0_0 - a0_3)) < 0 then (some 8) else (if a0_4 < 0 then (some 8) else (if a0_4 ≥ a0_2 then (some 8) else (if (wrap64 (a0_0 - a0_3)) = 0 then (if a0_4 > 0 then (some 8) else (some 0)) else (some 0)))))) else (some t103))) = some r := h
 clear h
 have H0_ := bo_ H; clear H; obtain ⟨t103, A2, H⟩ := H0_
 try dsimp only at H
 by_cases c3 : t103 = 0
 ·rw [if_pos c3] at H
  have c3b0 : (t103 == 0) = true := beq_iff_eq.mpr c3
  have c3b1 : (t103 != 0) = false := bne_eq_false_iff_eq.mpr c3
  clear c3
  by_cases c4 : a0_3 < 0
  ·rw [if_pos c4] at H
   have c4b0 : decide (a0_3 < 0) = true := decide_eq_true c4
   clear c4
   obtain rfl := Option.some.inj H
   go_enter Try.func42, Try.ntmps42
   go_wp2_with (first | ((with_reducible refine gate_dst (N := 1) rfl ?_); (try refine ug_ (by rfl) ?_); refine bx_ #[.int .i64 a0_0, .int .i64 a0_1, .int .i64 a0_2, .int .i64 a0_3, .int .i64 a0_4, .int .u64 a0_5] 26 ?_; intro gb102 hg w5 BK102 hb; have GW102 := bz_ w hg; have GE102 := GW102; replace HB := bs_ w hb; clear hb hg; replace hc102 := ce6_ BK102) | ((with_reducible refine gate_callee (f := 54) rfl ?_); (try refine ug_ (by rfl) ?_); refine goesA_ (some 7) Try.func54 #[.agg #[.int .i64 a0_0, .int .i64 a0_1, .int .i64 a0_2]] ?_; (with_reducible refine (bucket_CheckLimit.calls a0_0 a0_1 a0_2 t103 _ A2.out).mono ?_); rintro e w7 ⟨rfl, hb⟩; refine ⟨_, rfl, ?_⟩; replace BK102 := bb_ BK102 hb; replace HB := bs_ w hb; clear hb; replace hc102 := ce6_ BK102))
   go_ret
   exact fi_
  ·rw [if_neg c4] at H
   have c4b0 : decide (a0_3 < 0) = false := decide_eq_false c4
   clear c4
   by_cases c9 : (wrap64 (a0_0 - a0_3)) < 0
   ·rw [if_pos c9] at H
    have c9b0 : decide ((wrap64 (a0_0 - a0_3)) < 0) = true := decide_eq_true c9
    clear c9
    obtain rfl := Option.some.inj H
    go_enter Try.func42, Try.ntmps42
    go_wp2_with (first | ((with_reducible refine gate_dst (N := 1) rfl ?_); (try refine ug_ (by rfl) ?_); refine bx_ #[.int .i64 a0_0, .int .i64 a0_1, .int .i64 a0_2, .int .i64 a0_3, .int .i64 a0_4, .int .u64 a0_5] 26 ?_; intro gb102 hg w10 BK102 hb; have GW102 := bz_ w hg; have GE102 := GW102; replace HB := bs_ w hb; clear hb hg; replace hc102 := ce6_ BK102) | ((with_reducible refine gate_callee (f := 54) rfl ?_); (try refine ug_ (by rfl) ?_); refine goesA_ (some 7) Try.func54 #[.agg #[.int .i64 a0_0, .int .i64 a0_1, .int .i64 a0_2]] ?_; (with_reducible refine (bucket_CheckLimit.calls a0_0 a0_1 a0_2 t103 _ A2.out).mono ?_); rintro e w12 ⟨rfl, hb⟩; refine ⟨_, rfl, ?_⟩; replace BK102 := bb_ BK102 hb; replace HB := bs_ w hb; clear hb; replace hc102 := ce6_ BK102))
    go_ret
    exact fi_
   ·rw [if_neg c9] at H
    have c9b0 : decide ((wrap64 (a0_0 - a0_3)) < 0) = false := decide_eq_false c9
    clear c9
    by_cases c14 : a0_4 < 0
    ·rw [if_pos c14] at H
     have c14b0 : decide (a0_4 < 0) = true := decide_eq_true c14
     clear c14
     obtain rfl := Option.some.inj H
     go_enter Try.func42, Try.ntmps42
     go_wp2_with (first | ((with_reducible refine gate_dst (N := 1) rfl ?_); (try refine ug_ (by rfl) ?_); refine bx_ #[.int .i64 a0_0, .int .i64 a0_1, .int .i64 a0_2, .int .i64 a0_3, .int .i64 a0_4, .int .u64 a0_5] 26 ?_; intro gb102 hg w15 BK102 hb; have GW102 := bz_ w hg; have GE102 := GW102; replace HB := bs_ w hb; clear hb hg; replace hc102 := ce6_ BK102) | ((with_reducible refine gate_callee (f := 54) rfl ?_); (try refine ug_ (by rfl) ?_); refine goesA_ (some 7) Try.func54 #[.agg #[.int .i64 a0_0, .int .i64 a0_1, .int .i64 a0_2]] ?_; (with_reducible refine (bucket_CheckLimit.calls a0_0 a0_1 a0_2 t103 _ A2.out).mono ?_); rintro e w17 ⟨rfl, hb⟩; refine ⟨_, rfl, ?_⟩; replace BK102 := bb_ BK102 hb; replace HB := bs_ w hb; clear hb; replace hc102 := ce6_ BK102))
     go_ret
     exact fi_
    ·rw [if_neg c14] at H
     have c14b0 : decide (a0_4 < 0) = false := decide_eq_false c14
     clear c14
     by_cases c19 : a0_4 ≥ a0_2
     ·rw [if_pos c19] at H
      have c19b0 : decide (a0_2 ≤ a0_4) = true := decide_eq_true c19
      clear c19
      obtain rfl := Option.some.inj H
      go_enter Try.func42, Try.ntmps42
      go_wp2_with (first | ((with_reducible refine gate_dst (N := 1) rfl ?_); (try refine ug_ (by rfl) ?_); refine bx_ #[.int .i64 a0_0, .int .i64 a0_1, .int .i64 a0_2, .int .i64 a0_3, .int .i64 a0_4, .int .u64 a0_5] 26 ?_; intro gb102 hg w20 BK102 hb; have GW102 := bz_ w hg; have GE102 := GW102; replace HB := bs_ w hb; clear hb hg; replace hc102 := ce6_ BK102) | ((with_reducible refine gate_callee (f := 54) rfl ?_); (try refine ug_ (by rfl) ?_); refine goesA_ (some 7) Try.func54 #[.agg #[.int .i64 a0_0, .int .i64 a0_1, .int .i64 a0_2]] ?_; (with_reducible refine (bucket_CheckLimit.calls a0_0 a0_1 a0_2 t103 _ A2.out).mono ?_); rintro e w22 ⟨rfl, hb⟩; refine ⟨_, rfl, ?_⟩; replace BK102 := bb_ BK102 hb; replace HB := bs_ w hb; clear hb; replace hc102 := ce6_ BK102))
      go_ret
      exact fi_
     ·rw [if_neg c19] at H
      have c19b0 : decide (a0_2 ≤ a0_4) = false := decide_eq_false c19
      clear c19
      by_cases c24 : (wrap64 (a0_0 - a0_3)) = 0
      ·rw [if_pos c24] at H
       have c24b0 : ((wrap64 (a0_0 - a0_3)) == 0) = true := beq_iff_eq.mpr c24
       have c24b1 : ((wrap64 (a0_0 - a0_3)) != 0) = false := bne_eq_false_iff_eq.mpr c24
       clear c24
       by_cases c25 : a0_4 > 0
       ·rw [if_pos c25] at H
        have c25b0 : decide (0 < a0_4) = true := decide_eq_true c25
        clear c25
        obtain rfl := Option.some.inj H
        go_enter Try.func42, Try.ntmps42
        go_wp2_with (first | ((with_reducible refine gate_dst (N := 1) rfl ?_); (try refine ug_ (by rfl) ?_); refine bx_ #[.int .i64 a0_0, .int .i64 a0_1, .int .i64 a0_2, .int .i64 a0_3, .int .i64 a0_4, .int .u64 a0_5] 26 ?_; intro gb102 hg w26 BK102 hb; have GW102 := bz_ w hg; have GE102 := GW102; replace HB := bs_ w hb; clear hb hg; replace hc102 := ce6_ BK102) | ((with_reducible refine gate_callee (f := 54) rfl ?_); (try refine ug_ (by rfl) ?_); refine goesA_ (some 7) Try.func54 #[.agg #[.int .i64 a0_0, .int .i64 a0_1, .int .i64 a0_2]] ?_; (with_reducible refine (bucket_CheckLimit.calls a0_0 a0_1 a0_2 t103 _ A2.out).mono ?_); rintro e w28 ⟨rfl, hb⟩; refine ⟨_, rfl, ?_⟩; replace BK102 := bb_ BK102 hb; replace HB := bs_ w hb; clear hb; replace hc102 := ce6_ BK102))
        go_ret
        exact fi_
       ·rw [if_neg c25] at H
        have c25b0 : decide (0 < a0_4) = false := decide_eq_false c25
        clear c25
        obtain rfl := Option.some.inj H
        go_enter Try.func42, Try.ntmps42
        go_wp2_with (first | ((with_reducible refine gate_dst (N := 1) rfl ?_); (try refine ug_ (by rfl) ?_); refine bx_ #[.int .i64 a0_0, .int .i64 a0_1, .int .i64 a0_2, .int .i64 a0_3, .int .i64 a0_4, .int .u64 a0_5] 26 ?_; intro gb102 hg w30 BK102 hb; have GW102 := bz_ w hg; have GE102 := GW102; replace HB := bs_ w hb; clear hb hg; replace hc102 := ce6_ BK102) | ((with_reducible refine gate_callee (f := 54) rfl ?_); (try refine ug_ (by rfl) ?_); refine goesA_ (some 7) Try.func54 #[.agg #[.int .i64 a0_0, .int .i64 a0_1, .int .i64 a0_2]] ?_; (with_reducible refine (bucket_CheckLimit.calls a0_0 a0_1 a0_2 t103 _ A2.out).mono ?_); rintro e w32 ⟨rfl, hb⟩; refine ⟨_, rfl, ?_⟩; replace BK102 := bb_ BK102 hb; replace HB := bs_ w hb; clear hb; replace hc102 := ce6_ BK102))
        go_ret
        exact fi_
      ·rw [if_neg c24] at H
       have c24b0 : ((wrap64 (a0_0 - a0_3)) == 0) = false := beq_eq_false_iff_ne.mpr c24
       have c24b1 : ((wrap64 (a0_0 - a0_3)) != 0) = true := bne_iff_ne.mpr c24
       obtain rfl := Option.some.inj H
       go_enter Try.func42, Try.ntmps42
       go_wp2_with (first | ((with_reducible refine gate_dst (N := 1) rfl ?_); (try refine ug_ (by rfl) ?_); refine bx_ #[.int .i64 a0_0, .int .i64 a0_1, .int .i64 a0_2, .int .i64 a0_3, .int .i64 a0_4, .int .u64 a0_5] 26 ?_; intro gb102 hg w34 BK102 hb; have GW102 := bz_ w hg; have GE102 := GW102; replace HB := bs_ w hb; clear hb hg; replace hc102 := ce6_ BK102) | ((with_reducible refine gate_callee (f := 54) rfl ?_); (try refine ug_ (by rfl) ?_); refine goesA_ (some 7) Try.func54 #[.agg #[.int .i64 a0_0, .int .i64 a0_1, .int .i64 a0_2]] ?_; (with_reducible refine (bucket_CheckLimit.calls a0_0 a0_1 a0_2 t103 _ A2.out).mono ?_); rintro e w36 ⟨rfl, hb⟩; refine ⟨_, rfl, ?_⟩; replace BK102 := bb_ BK102 hb; replace HB := bs_ w hb; clear hb; replace hc102 := ce6_ BK102))
       go_ret
       exact fi_
 ·rw [if_neg c3] at H
  have c3b0 : (t103 == 0) = false := beq_eq_false_iff_ne.mpr c3
  have c3b1 : (t103 != 0) = true := bne_iff_ne.mpr c3
  obtain rfl := Option.some.inj H
  go_enter Try.func42, Try.ntmps42
  go_wp2_with (first | ((with_reducible refine gate_dst (N := 1) rfl ?_); (try refine ug_ (by rfl) ?_); refine bx_ #[.int .i64 a0_0, .int .i64 a0_1, .int .i64 a0_2, .int .i64 a0_3, .int .i64 a0_4, .int .u64 a0_5] 26 ?_; intro gb102 hg w38 BK102 hb; have GW102 := bz_ w hg; have GE102 := GW102; replace HB := bs_ w hb; clear hb hg; replace hc102 := ce6_ BK102) | ((with_reducible refine gate_callee (f := 54) rfl ?_); (try refine ug_ (by rfl) ?_); refine goesA_ (some 7) Try.func54 #[.agg #[.int .i64 a0_0, .int .i64 a0_1, .int .i64 a0_2]] ?_; (with_reducible refine (bucket_CheckLimit.calls a0_0 a0_1 a0_2 t103 _ A2.out).mono ?_); rintro e w40 ⟨rfl, hb⟩; refine ⟨_, rfl, ?_⟩; replace BK102 := bb_ BK102 hb; replace HB := bs_ w hb; clear hb))
  go_ret
  exact fi_

-- NOT PRINTED: function 55 (slices_IndexFunc_int64)

-- NOT PRINTED: function 43 (slices_ContainsFunc_int64)

end Go.Proofs.Ytbfdpodlnijeoaa.X
