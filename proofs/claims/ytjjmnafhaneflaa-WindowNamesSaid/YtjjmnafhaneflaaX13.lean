-- written by xprint.py, a program of this session over the kit's print
import Derived.Test.YtjjmnafhaneflaaX0
namespace Go.Proofs.Ytjjmnafhaneflaa.X
open Go.RowKit Go.Proofs.YtjjmnafhaneflaaW.PrintWords Go.Proofs.YtjjmnafhaneflaaW.PrintLast Go.Proofs.YtjjmnafhaneflaaW.PrintMore
attribute [local go_sem] max2_int min2_int max_two min_two max_three min_three max_four min_four   -- for this text's walks alone
set_option linter.unusedVariables false
set_option linter.unusedSimpArgs false

/-! ### window_summed: function 33 -/
def sB (p : Int → Bool) : List S58 → Int
  | [] => 0
  | x :: r => if p x.f0 = true then x.f1 + sB p r else 0
theorem sB_step {p : Int → Bool} {l : List S58} {i : Nat} (h : i < l.length) : sB p (l.take (i + 1)).reverse = if p l[i].f0 = true then l[i].f1 + sB p (l.take i).reverse else 0 := by
  rw [List.take_add_one, List.getElem?_eq_getElem h, Option.toList_some, List.reverse_append, List.reverse_singleton, List.singleton_append]
  rfl
theorem sB_bd {p : Int → Bool} : ∀ {r : List S58}, (∀ x ∈ r, 0 ≤ x.f1 ∧ x.f1 ≤ 1000000000) → 0 ≤ sB p r ∧ sB p r ≤ 1000000000 * (r.length : Int)
  | [], _ => by simp [sB]
  | x :: r, h => by
    have h1 := h x List.mem_cons_self
    have h2 := sB_bd (p := p) (r := r) fun y hy => h y (List.mem_cons_of_mem _ hy)
    unfold sB
    simp only [List.length_cons]
    split <;> omega
noncomputable def window_summed.rest : Code := match Try.f33.body with
  | some (.seq _ (.scope (.seq _ (.seq _ (.seq _ r))))) => r
  | _ => .skip
abbrev window_summed.act (A : Option Addr) (n c : Nat) (f : FuncId) (caps : Array Value) (i s : Int) (u10 u11 u12 u13 u14 u15 u16 u17 u18 u19 u20 u21 u22 u23 u24 u25 u26 u27 u28 u29 : Value) : Act :=
  { tmps := #[.slice A n c, .func (.func f) #[] caps, undef, undef, .int .i64 0, .int .i64 s, .int .i64 i, .slice A n c, .int .i64 n, .int .i64 ((n : Int) - 1), u10, u11, u12, u13, u14, u15, u16, u17, u18, u19, u20, u21, u22, u23, u24, u25, u26, u27, u28, u29, undef], defers := [] }
set_option maxHeartbeats 8000000 in
set_option maxRecDepth 100000 in
theorem window_summed.body (p : Int → Bool) (f : FuncId) (fn : Func) (caps : Array Value) (hf : Try.prog.funcs[f]? = some fn) (hname : (fn.name == "runtime.NumGoroutine") = false) (hb : fn.body.isSome = true)
  (A : Option Addr) (c : Nat) (l : List S58) (w : World) (HC : Aside0 (Kd.C k58 w A l.length l)) (hlen : l.length ≤ 1000) (HCOST : Aside0 (∀ x ∈ l, 0 ≤ x.f1 ∧ x.f1 ≤ 1000000000))
  (HIN : Aside0 (∀ (w' : World) (y : S58), y ∈ l → Below w.heap.size w w' → Calls Try.prog f (#[.int .u64 y.f0] ++ caps) w' fun e w'' => e = .returned (.bool (p y.f0)) ∧ Below w'.heap.size w' w''))
  (w' : World) (HB : Aside0 (Below w.heap.size w w')) (i : Nat) (s : Int) (u10 u11 u12 u13 u14 u15 u16 u17 u18 u19 u20 u21 u22 u23 u24 u25 u26 u27 u28 u29 : Value) (hi : i ≤ l.length) (HS : Aside0 (s + sB p (l.take i).reverse = sB p l.reverse)) (HS0 : Aside0 (0 ≤ s))
  (J : Act → World → Prop) (HJ : Aside0 (∀ (j : Nat) (s' : Int) (v10 v11 v12 v13 v14 v15 v16 v17 v18 v19 v20 v21 v22 v23 v24 v25 v26 v27 v28 v29 : Value) (w'' : World), i = j + 1 → Below w.heap.size w w'' → s' + sB p (l.take j).reverse = sB p l.reverse → 0 ≤ s' →
    J (window_summed.act A l.length c f caps ((j : Int) - 1) s' v10 v11 v12 v13 v14 v15 v16 v17 v18 v19 v20 v21 v22 v23 v24 v25 v26 v27 v28 v29) w'')) :
  window_summed.rest.wp Try.prog (Exit.jump 0 J (bodyPost Try.prog Try.f33 fun e w' => e = Ending.returned (.int .i64 (sB p l.reverse)) ∧ Below w.heap.size w w')) (window_summed.act A l.length c f caps ((i : Int) - 1) s u10 u11 u12 u13 u14 u15 u16 u17 u18 u19 u20 u21 u22 u23 u24 u25 u26 u27 u28 u29) w' := by
  have hu2 := Try.underlying58
  unfold window_summed.act window_summed.rest Try.f33
  simp only
  cases i with
  | zero =>
    have c0 : decide ((0 : Int) ≤ ((0 : Nat) : Int) - 1) = false := by decide
    have e0 : (((0 : Nat) : Int) - 1) = -1 := by decide
    have er : sB p l.reverse = s := by
      have := HS.out
      rw [List.take_zero] at this
      show _ = s
      rw [← this]
      show s + 0 = s
      omega
    go_wp2
    simp only [Exit.jump]
    go_ret
    exact ⟨by rw [er]; rfl, HB.out⟩
  | succ i =>
    have hil : i < l.length := by omega
    have e1 : (((i + 1 : Nat) : Int) - 1) = (i : Int) := by omega
    rw [e1]
    have p0 : 0 ≤ (i : Int) := by omega
    have q0 : (i : Int) < (l.length : Int) := by omega
    obtain ⟨ad, e, hx0, hx1⟩ := at_T58 HC.out i p0 q0
    cases e
    have er : rd_T58 l (i : Int) = l[i] := by
      unfold rd_T58
      rw [List.getD_eq_getElem?_getD, Int.toNat_natCast, List.getElem?_eq_getElem hil]
      rfl
    rw [er, Int.toNat_natCast] at hx0 hx1
    replace hx0 := (HB.out.cell (World.block_lt_of_cell? w _ hx0)).trans hx0
    replace hx1 := (HB.out.cell (World.block_lt_of_cell? w _ hx1)).trans hx1
    have c1 : decide ((0 : Int) ≤ (i : Int)) = true := decide_eq_true p0
    have c2 : decide ((i : Int) < (l.length : Int)) = true := decide_eq_true q0
    replace p0 := eq_true p0
    replace q0 := eq_true q0
    have CALL := Aside0.mk (HIN.out w' l[i] (List.getElem_mem hil) HB.out)
    have HX := Aside0.mk hx1
    clear hx1
    by_cases cp : p l[i].f0 = true
    · rw [cp] at CALL
      have hs2 : (s + l[i].f1) + sB p (l.take i).reverse = sB p l.reverse := by
        rw [← HS.out, sB_step hil, if_pos cp]
        omega
      have hc := HCOST.out l[i] (List.getElem_mem hil)
      have hbd := sB_bd (p := p) (r := (l.take i).reverse) fun x hx => HCOST.out x (List.mem_of_mem_take (List.mem_reverse.1 hx))
      have hbd2 := sB_bd (p := p) (r := l.reverse) fun x hx => HCOST.out x (List.mem_reverse.1 hx)
      rw [List.length_reverse] at hbd2
      have h0 := HS0.out
      have w1 : wrap64 (s + l[i].f1) = s + l[i].f1 := by unfold wrap64; omega
      have w2 : wrap64 ((i : Int) - 1) = (i : Int) - 1 := by unfold wrap64; omega
      have HS2 := Aside0.mk hs2
      have HS3 : Aside0 (0 ≤ s + l[i].f1) := ⟨by omega⟩
      clear hs2 hc hbd hbd2 h0
      go_wp2_with (first | ((with_reducible refine gate_calleeT (f := f) rfl ?_); (try refine ug_ (by rfl) ?_); refine goesLC_ (some 19) rfl rfl hf hname hb #[.int .u64 l[i].f0] rfl (lb := caps) rfl (by (try simp only [List.map_toArray, List.map_cons, List.map_nil]); first | done | rfl) (full := #[.int .u64 l[i].f0] ++ caps) rfl ?_; (refine CALL.out.mono ?_); rintro e w9 ⟨rfl, hb⟩; refine ⟨_, rfl, ?_⟩; have hx1 := (hb.cell (World.block_lt_of_cell? w' _ HX.out)).trans HX.out; replace HB := bs_ w hb; clear hb))
      go_step3
      exact ⟨rfl, HJ.out i _ _ _ _ _ _ _ _ _ _ _ _ _ _ _ _ _ _ _ _ _ _ rfl HB.out (by rw [w1]; exact HS2.out) (by rw [w1]; exact HS3.out)⟩
    · have cp' : p l[i].f0 = false := Bool.eq_false_iff.mpr cp
      rw [cp'] at CALL
      have er2 : sB p l.reverse = s := by
        rw [← HS.out, sB_step hil, if_neg cp]
        omega
      go_wp2_with (first | ((with_reducible refine gate_calleeT (f := f) rfl ?_); (try refine ug_ (by rfl) ?_); refine goesLC_ (some 19) rfl rfl hf hname hb #[.int .u64 l[i].f0] rfl (lb := caps) rfl (by (try simp only [List.map_toArray, List.map_cons, List.map_nil]); first | done | rfl) (full := #[.int .u64 l[i].f0] ++ caps) rfl ?_; (refine CALL.out.mono ?_); rintro e w9 ⟨rfl, hb⟩; refine ⟨_, rfl, ?_⟩; replace HB := bs_ w hb; clear hb))
      simp only [Exit.jump]
      go_ret
      exact ⟨by rw [er2]; rfl, HB.out⟩
set_option maxHeartbeats 8000000 in
set_option maxRecDepth 100000 in
theorem window_summed.run (p : Int → Bool) (f : FuncId) (fn : Func) (caps : Array Value) (hf : Try.prog.funcs[f]? = some fn) (hname : (fn.name == "runtime.NumGoroutine") = false) (hb : fn.body.isSome = true)
  (A : Option Addr) (c : Nat) (l : List S58) (w : World) (hC : Kd.C k58 w A l.length l) (hlen : l.length ≤ 1000) (hcost : ∀ x ∈ l, 0 ≤ x.f1 ∧ x.f1 ≤ 1000000000)
  (hin : ∀ (w' : World) (y : S58), y ∈ l → Below w.heap.size w w' → Calls Try.prog f (#[.int .u64 y.f0] ++ caps) w' fun e w'' => e = .returned (.bool (p y.f0)) ∧ Below w'.heap.size w' w'') :
  Calls Try.prog 33 #[.slice A l.length c, .func (.func f) #[] caps] w fun e w' => e = .returned (.int .i64 (sB p l.reverse)) ∧ Below w.heap.size w w' := by
  have hu2 := Try.underlying58
  have HC := Aside0.mk hC
  have HIN := Aside0.mk hin
  have HCOST := Aside0.mk hcost
  clear hC hin hcost
  have HB := Aside0.mk (Below.refl w.heap.size w)
  have BODY := fun (w' : World) (HB : Aside0 (Below w.heap.size w w')) (i : Nat) (s : Int) (u10 u11 u12 u13 u14 u15 u16 u17 u18 u19 u20 u21 u22 u23 u24 u25 u26 u27 u28 u29 : Value) (hi : i ≤ l.length) (HS : Aside0 (s + sB p (l.take i).reverse = sB p l.reverse)) (HS0 : Aside0 (0 ≤ s)) =>
    Aside0.mk (fun J => window_summed.body p f fn caps hf hname hb A c l w HC hlen HCOST HIN w' HB i s u10 u11 u12 u13 u14 u15 u16 u17 u18 u19 u20 u21 u22 u23 u24 u25 u26 u27 u28 u29 hi HS HS0 J)
  go_enter Try.func33, Try.ntmps33
  go_wp2
  refine wp_scope_jumps 0 (fun a' w' => Aside0 (Below w.heap.size w w') ∧ ∃ (i : Nat) (s : Int) (u10 u11 u12 u13 u14 u15 u16 u17 u18 u19 u20 u21 u22 u23 u24 u25 u26 u27 u28 u29 : Value), i ≤ l.length ∧ Aside0 (s + sB p (l.take i).reverse = sB p l.reverse) ∧ Aside0 (0 ≤ s) ∧
    a' = window_summed.act A l.length c f caps ((i : Int) - 1) s u10 u11 u12 u13 u14 u15 u16 u17 u18 u19 u20 u21 u22 u23 u24 u25 u26 u27 u28 u29)
    (fun a' _ => match a'.tmps.getD 6 undef with | Value.int _ n => (n + 1).toNat | _ => 0) rfl ?_ ?_
  · have e1 : wrap64 ((l.length : Int) - 1) = (l.length : Int) - 1 := by unfold wrap64; omega
    have HS : Aside0 ((0 : Int) + sB p (l.take l.length).reverse = sB p l.reverse) := ⟨by rw [List.take_length]; omega⟩
    go_wp2
    go_step3
    rename_i hk
    refine hk _ _ ?_
    exact (BODY w HB l.length 0 _ _ _ _ _ _ _ _ _ _ _ _ _ _ _ _ _ _ _ _ (Nat.le_refl _) HS ⟨Int.le_refl _⟩).out _ ⟨fun j s' v10 v11 v12 v13 v14 v15 v16 v17 v18 v19 v20 v21 v22 v23 v24 v25 v26 v27 v28 v29 w'' hj hb hs h0 => ⟨⟨hb⟩, j, s', _, _, _, _, _, _, _, _, _, _, _, _, _, _, _, _, _, _, _, _, by omega, ⟨hs⟩, ⟨h0⟩, rfl⟩⟩
  · rintro a' w' ⟨HB', i, s, u10, u11, u12, u13, u14, u15, u16, u17, u18, u19, u20, u21, u22, u23, u24, u25, u26, u27, u28, u29, hi, HS, HS0, rfl⟩
    apply wp_seq_k
    intro K hK
    apply wp_skip
    refine hK _ _ ?_
    refine (BODY w' HB' i s u10 u11 u12 u13 u14 u15 u16 u17 u18 u19 u20 u21 u22 u23 u24 u25 u26 u27 u28 u29 hi HS HS0).out _ ⟨fun j s' v10 v11 v12 v13 v14 v15 v16 v17 v18 v19 v20 v21 v22 v23 v24 v25 v26 v27 v28 v29 w'' hj hb hs h0 => ⟨⟨⟨hb⟩, j, s', _, _, _, _, _, _, _, _, _, _, _, _, _, _, _, _, _, _, _, _, by omega, ⟨hs⟩, ⟨h0⟩, rfl⟩, ?_⟩⟩
    show ((j : Int) - 1 + 1).toNat < ((i : Int) - 1 + 1).toNat
    omega

end Go.Proofs.Ytjjmnafhaneflaa.X
