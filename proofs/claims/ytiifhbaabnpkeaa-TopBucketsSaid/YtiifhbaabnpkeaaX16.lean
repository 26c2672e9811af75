-- written by xprint.py, a program of this session over the kit's print
import Derived.RangeFuncNested
import Derived.RangeFuncBox
import Derived.RangeFuncLeaves
import Derived.RangeFuncCalls
import Derived.Shelf.RegionOpen
import Derived.OwnWalkIn
import Derived.TacticsInMore
import Derived.LoopNIn
import Derived.LoopIn
import Derived.Maps.AppendAt
import Derived.Test.YtiifhbaabnpkeaaX0
namespace Go.Proofs.Ytiifhbaabnpkeaa.X
open Go.RowKit Go.Proofs.YtiifhbaabnpkeaaW.PrintWords Go.Proofs.YtiifhbaabnpkeaaW.PrintLast Go.Proofs.YtiifhbaabnpkeaaW.PrintMore
attribute [local go_sem] max2_int min2_int max_two min_two max_three min_three max_four min_four   -- for this text's walks alone
set_option linter.unusedVariables false
set_option linter.unusedSimpArgs false

/-! ### clock_Clamps: function 7 -/
section
attribute [local go_sem] Oper.semAt_some
/-- A range over a function whose iterator writes cells of its own: sigma is what the rounds have made. -/
theorem rangeFunc_cells {σ α : Type} {P : Program} {g : Operand} {ps : Array Tmp} {assign body : Code} {Q : Exit → Act → World → Prop} {a : Act} {w : World}
    {gf : Nat} {lb : Array Value} (hg : a.eval g = .func (.func gf) #[] lb) (eg : ∀ args w, (callFunc gf args).run P w = .ok (.enter gf args) w)
    (encs : α → Array Value) (hps : ∀ x, (encs x).size = ps.size) (I : σ → World → Prop) (s0 : σ) (nx : σ → α → σ) (ok : σ → α → Prop) (Fin : σ → Prop)
    (hIo : ∀ s W l o o', I s W → w.heap.size ≤ l → W.heap[l]? = some o → o.isCells = false → I s (W.putObj l o')) (hIa : ∀ s W o, I s W → I s (W.alloc o)) (h0 : I s0 w)
    (hseq : ∀ (l : Nat) (J : σ → World → Prop) (W : World), (∀ s W, J s W → I s W) → (∀ s s' W W', J s W → KeepsOthers W W' → I s' W' → J s' W') →
      (∀ s x W, J s W → ok s x → YieldAt Fence.wide 8 P l (encs x) W fun e W' => e = .returned (.bool true) ∧ J (nx s x) W') → J s0 W →
      CallsIn Fence.wide 9 P gf (#[.func (.yield l) #[] #[]] ++ lb) W fun e W' => (∃ v, e = .returned v) ∧ ∃ s, Fin s ∧ J s W')
    (a₁ : α → Act)
    (hassign : ∀ (l : Nat) (x : α) (W : World) (K : Act → World → Prop), K (a₁ x) W →
      assign.wpIn (Fence.wide.inRound l) 8 P (Exit.then K (fun _ _ _ => False)) { tmps := (ps.zip (encs x)).foldl (fun t (p, v) => t.setIfInBounds p v) a.tmps, defers := [] } W)
    (hbody : ∀ (l : Nat) (s : σ) (x : α) (W : World), I s W → ok s x → body.wpIn (Fence.wide.inRound l) 8 P (fun e _ W' => e = .normal ∧ KeepsOthers W W' ∧ I (nx s x) W') (a₁ x) W)
    (hdone : ∀ (D : Nat) (s : σ) (W : World), w.heap.size ≤ D → Fin s → I s W → W.heap[D]? = some (.deferred (some [])) → Q .normal { a with defers := { target := .collected D, args := #[] } :: a.defers } W) :
    (Code.rangeFunc g ps assign body).wpIn Fence.wide 10 P Q a w := by
  refine wpIn_rangeFunc ?_
  intro fn hfn
  show ∃ l mark w₁ d w₁' f args w₂, (Instr.enterLoop fn a.tmps ps assign body none).run P w = _ ∧ _
  obtain ⟨rec, hrec⟩ : ∃ rec : LoopState → Option Code → Loop, rec = fun st pe => { state := st, pending := pe, fn, tmps := a.tmps, params := ps, assign, body, defers := w.heap.size } := ⟨_, rfl⟩
  obtain ⟨W1, hW1⟩ : ∃ W1, (w.alloc (.deferred (some []))).alloc (.loop (rec .ready none)) = W1 := ⟨_, rfl⟩
  have hL1 : W1.heap[w.heap.size + 1]? = some (.loop (rec .ready none)) := by
    rw [← hW1]; have := World.alloc_heap_new (w.alloc (.deferred (some []))) (.loop (rec .ready none)); rwa [World.size_alloc] at this
  have hK1 : W1.heap[w.heap.size]? = some (.deferred (some [])) := by
    rw [← hW1]; exact (Below.heap_alloc _ _ _ (by simp)).trans (World.alloc_heap_new w _)
  have hI1 : I s0 W1 := by rw [← hW1]; exact hIa _ _ _ (hIa _ _ _ h0)
  refine ⟨w.heap.size + 1, [{ target := .collected w.heap.size, args := #[] }], W1, { target := .fn (.func gf) lb, args := #[.func (.yield (w.heap.size + 1)) #[] #[]] }, W1, gf,
    #[.func (.yield (w.heap.size + 1)) #[] #[]] ++ lb, W1, ?_, ?_, fun _ _ => trivial, ?_, fun _ => by decide, ?_⟩
  · rw [← hW1, hrec]; exact run_enterLoop_outer _ _ _ _ _
  · simp only [resolve, hg]
    simp [go_sem]
  · simp [invoke, go_sem, eg]
  · refine (hseq (w.heap.size + 1)
      (fun s W => I s W ∧ W.heap[w.heap.size + 1]? = some (.loop (rec .ready none)) ∧ W.heap[w.heap.size]? = some (.deferred (some [])))
      W1 (fun _ _ h => h.1) (fun s s' W W' h hk hi => ⟨hi, hk.same _ _ h.2.1 rfl, hk.same _ _ h.2.2 rfl⟩) ?_ ⟨hI1, hL1, hK1⟩).mono ?_
    · rintro s x W ⟨hi, hl, hk⟩ hok
      have hlt : w.heap.size + 1 < W.heap.size := (Array.getElem?_eq_some_iff.1 hl).1
      have hy := run_yield (P := P) (args := encs x) hl (by rw [hrec]; exact hps x)
      rw [hrec] at hy
      refine ⟨fn, _, assign, body, hy, roundIn_of_wpIn hfn (hassign _ x W _ ⟨_, run_beginRound hl (by rw [hrec]), ?_⟩)⟩
      have hl2 : (W.putObj (w.heap.size + 1) (.loop { rec .ready none with state := .busy })).heap[w.heap.size + 1]? = some (.loop { rec .ready none with state := .busy }) := World.putObj_heap_same hlt
      have hk2 : (W.putObj (w.heap.size + 1) (.loop { rec .ready none with state := .busy })).heap[w.heap.size]? = some (.deferred (some [])) := (World.putObj_heap_other (by omega)).trans hk
      refine wpIn_mono (hbody _ s x _ (hIo _ _ _ _ _ hi (by omega) hl rfl) hok) ?_
      rintro e a3 W3 ⟨rfl, hk3, hi3⟩
      have hl3 := hk3.same _ _ hl2 rfl
      have hd3 := hk3.same _ _ hk2 rfl
      have hr := run_endRound (P := P) none hl3
      rw [hrec] at hr hl3 ⊢
      exact ⟨_, _, hr, rfl, hIo _ _ _ _ _ hi3 (by omega) hl3 rfl, World.putObj_heap_same (Array.getElem?_eq_some_iff.1 hl3).1, (World.putObj_heap_other (by omega)).trans hd3⟩
    · rintro e W2 ⟨⟨v, rfl⟩, s, hS, hi, hl, hk⟩
      exact ⟨none, _, by have := run_endLoop (P := P) hl (by rw [hrec]; simp); rw [hrec] at this; exact this, hdone _ s _ (Nat.le_refl _) hS (hIo _ _ _ _ _ hi (by omega) hl rfl) ((World.putObj_heap_other (by omega)).trans hk)⟩
attribute [local go_sem] Oper.semAt_some max2_int min2_int max_two min_two
def clampL : Int → List Int → List Int
  | _, [] => []
  | now, t :: ts => mx now t :: clampL (mx now t) ts
def lastL : Int → List Int → Int
  | now, [] => now
  | now, t :: ts => lastL (mx now t) ts
theorem clampL_snoc : ∀ (ts : List Int) (now x : Int), clampL now (ts ++ [x]) = clampL now ts ++ [mx (lastL now ts) x] := by
  intro ts
  induction ts with
  | nil => intro now x; rfl
  | cons t ts ih => intro now x; simp only [List.cons_append, clampL, lastL]; rw [ih]
theorem lastL_snoc : ∀ (ts : List Int) (now x : Int), lastL now (ts ++ [x]) = mx (lastL now ts) x := by
  intro ts
  induction ts with
  | nil => intro now x; rfl
  | cons t ts ih => intro now x; simp only [List.cons_append, lastL]; rw [ih]
set_option maxHeartbeats 2000000 in
theorem clock_Clamp.at (F : Fence) (n : Nat) (hF : F.fn 16) (hro : F.round = none) (a0 a1 : Int) (w : World) : CallsIn F n Try.prog 16 #[.int .u64 a0, .int .u64 a1] w fun e w' => e = .returned (.int .u64 (mx a0 a1)) ∧ w' = w := by
  refine callsIn_of_wp Try.func16 rfl hF ?_ hro
  simp only [Try.ntmps16, List.size_toArray, List.length_cons, List.length_nil, Nat.reduceAdd, Nat.reduceSub, Array.replicate_succ, Array.replicate_zero, List.push_toArray, List.append_toArray, List.nil_append, List.cons_append]
  by_cases c : a0 < a1
  · have e : mx a0 a1 = a1 := by unfold mx; rw [if_pos c]
    have c2 : a1 > a0 := c
    rw [e]
    gi_wp2
    all_goals first | (exfalso; omega) | (go_ret; exact ⟨rfl, rfl⟩)
  · have e : mx a0 a1 = a0 := by unfold mx; rw [if_neg c]
    rw [e]
    gi_wp2
    all_goals first | (exfalso; omega) | (go_ret; exact ⟨rfl, rfl⟩)
set_option maxHeartbeats 2000000 in
theorem clock_run.at (F : Fence) (n : Nat) (hF : F.fn 15) (hro : F.round = none) (a0 : Int) (A : Option Addr) (m c : Nat) (w : World) :
    CallsIn F n Try.prog 15 #[.int .u64 a0, .slice A m c] w fun e w' => e = .returned (.func (.func 30) #[] #[.pointer (some ⟨w.heap.size + 1, 0, none⟩), .pointer (some ⟨w.heap.size, 0, none⟩)]) ∧ w' = (w.alloc (.cells #[.int .u64 a0] 23)).alloc (.cells #[.slice A m c] 24) := by
  refine callsIn_of_wp Try.func15 rfl hF ?_ hro
  simp only [Try.ntmps15, List.size_toArray, List.length_cons, List.length_nil, Nat.reduceAdd, Nat.reduceSub, Array.replicate_succ, Array.replicate_zero, List.push_toArray, List.append_toArray, List.nil_append, List.cons_append]
  gi_wp2
  go_ret
  exact ⟨rfl, rfl⟩
def clI (n0 : Nat) (w0 : World) (A : Option Addr) (m c : Nat) (s : List Int × Int) (W : World) : Prop :=
  (∃ v, Boxed W n0 24 v ∧ W.ownsRow (n0 + 3) 23 1 v s.1.length (s.1.map (Value.int .u64))) ∧ Boxed W (n0 + 1) 23 (.int .u64 s.2) ∧ Boxed W (n0 + 2) 24 (.slice A m c) ∧ Below n0 w0 W
section
variable {n0 : Nat} {w0 : World} {A : Option Addr} {m c : Nat} {s : List Int × Int} {W : World}
theorem clI.drew (h : clI n0 w0 A m c s W) : clI n0 w0 A m c s W.drew := by
  obtain ⟨⟨v, hv, hr⟩, hn, hl, hb⟩ := h
  exact ⟨⟨v, hv, hr⟩, hn, hl, hb.drew⟩
theorem own_ne {b k : Nat} {v : Value} {xs : List Value} (h : W.ownsRow b 23 1 v k xs) {j : Nat} (hj : j < b) : some j ≠ v.ownBlock := fun e => by
  have := own_base h j e.symm
  omega
theorem clI.set (h : clI n0 w0 A m c s W) (u : Int) : clI n0 w0 A m c (s.1, u) (W.setCell ⟨n0 + 1, 0, none⟩ (.int .u64 u)) := by
  obtain ⟨⟨v, hv, hr⟩, hn, hl, hb⟩ := h
  have hg := grownBy_setCell' W (n0 + 1) (.int .u64 u)
  exact ⟨⟨v, hv.kept hg (by simp), hr.kept hg (.inr (own_ne hr (by omega)).symm)⟩, hn.set _, hl.kept hg (by simp), hb.setCell (p := ⟨n0 + 1, 0, none⟩) (by show n0 ≤ n0 + 1; omega) _⟩
theorem clI.alloc (h : clI n0 w0 A m c s W) (o : Obj) : clI n0 w0 A m c s (W.alloc o) := by
  obtain ⟨⟨v, hv, hr⟩, hn, hl, hb⟩ := h
  exact ⟨⟨v, hv.alloc o, hr.alloc o⟩, hn.alloc o, hl.alloc o, hb.alloc (by have := hv.lt; omega) o⟩
theorem clI.putObj (h : clI n0 w0 A m c s W) {l : Nat} {o : Obj} (o' : Obj) (hnl : n0 ≤ l) (hl : W.heap[l]? = some o) (ho : o.isCells = false) : clI n0 w0 A m c s (W.putObj l o') := by
  obtain ⟨⟨v, hv, hr⟩, hn, hb1, hb⟩ := h
  have hg := grownBy_putObj' W l o'
  have ne : ∀ {B : Nat} {t : TypeId} {u : Value}, Boxed W B t u → some B ≠ some l := by
    intro B t u hB e
    injection e with e
    subst e
    rw [show W.heap[B]? = _ from hB] at hl
    cases hl
    cases ho
  exact ⟨⟨v, hv.kept hg (ne hv), ownsRow_putObj hr o' hl ho⟩, hn.kept hg (ne hn), hb1.kept hg (ne hb1), hb.trans ((Below.refl n0 W).grown hg (by have := hv.lt; omega) (fun k e => by cases e; exact hnl))⟩
end
set_option maxRecDepth 100000 in
set_option maxHeartbeats 4000000 in
theorem clock_run1.seq {w0 : World} {A : Option Addr} {c : Nat} {xs : List Int} (hr : Kd.C (Kd.int .u64) w0 A xs.length xs) (hn : xs.length ≤ 200) (a0 : Int) (l : Nat) (J : List Int × Int → World → Prop) (W : World)
    (hJI : ∀ s W, J s W → clI w0.heap.size w0 A xs.length c s W) (hJk : ∀ s s' W W', J s W → KeepsOthers W W' → clI w0.heap.size w0 A xs.length c s' W' → J s' W')
    (hY : ∀ (s : List Int × Int) (x : Int × Int) W, J s W → (x.1 = s.2 ∧ s.1.length < xs.length) → YieldAt Fence.wide 8 Try.prog l #[.int .u64 x.1, .int .u64 x.2] W fun e W' => e = .returned (.bool true) ∧ J (s.1 ++ [mx x.1 x.2], s.2) W') (h0 : J ([], a0) W) :
    CallsIn Fence.wide 9 Try.prog 30 (#[.func (.yield l) #[] #[]] ++ #[.pointer (some ⟨w0.heap.size + 2, 0, none⟩), .pointer (some ⟨w0.heap.size + 1, 0, none⟩)]) W fun e W' => (∃ v, e = .returned v) ∧ ∃ s, s = (clampL a0 xs, lastL a0 xs) ∧ J s W' := by
  have hlen : ∀ (ts : List Int) (now : Int), (clampL now ts).length = ts.length := by
    intro ts
    induction ts with
    | nil => intro now; rfl
    | cons t ts ih => intro now; simp only [clampL, List.length_cons]; rw [ih]
  refine callsIn_of_wp Try.func30 rfl trivial ?_ rfl
  simp only [Try.ntmps30, List.size_toArray, List.length_cons, List.length_nil, Nat.reduceAdd, Nat.reduceSub, Array.replicate_succ, Array.replicate_zero, List.push_toArray, List.append_toArray, List.nil_append, List.cons_append]
  obtain ⟨⟨v0, c0, r0⟩, n0, l0, b0⟩ := hJI _ _ h0
  have lc0 := l0.cell
  gi_wp2
  gi_loopw [7] (fun i wr => ∃ k : Nat, k ≤ xs.length ∧ i = .int .i64 k ∧ J (clampL a0 (xs.take k), lastL a0 (xs.take k)) wr)
    (fun i _ => xs.length - (intOf i).toNat)
  case atStart => exact ⟨0, Nat.zero_le _, rfl, h0⟩
  case round =>
    obtain ⟨k, hk, rfl, hJs⟩ := hrel
    obtain ⟨⟨v1, c1, r1⟩, n1, l1, b1⟩ := hJI _ _ hJs
    by_cases hlt : k < xs.length
    · have nc1 := n1.cell
      have lc1 := l1.cell
      have hmx : Try.prog.follows .mixedOrders = true := by kernel_rfl
      have hx := Kd.at_int hr (k : Int) (by omega) (by omega)
      obtain ⟨ad, rfl, hx1⟩ := hx
      rw [Int.toNat_natCast] at hx1
      have hx2 := (b1.cell (World.block_lt_of_cell? w0 _ hx1)).trans hx1
      have hJ2 := hJk _ _ _ _ hJs (KeepsOthers.drew _) (hJI _ _ hJs).drew
      obtain ⟨fn, tmps, assign, body, hy, hR⟩ := hY _ (lastL a0 (xs.take k), rd xs k) wr.drew hJ2 ⟨rfl, by rw [hlen, List.length_take]; omega⟩
      dsimp only at hy
      have et : xs.take (k + 1) = xs.take k ++ [rd xs (k : Int)] := by
        rw [List.take_add_one, List.getElem?_eq_getElem hlt, Option.toList_some]
        unfold rd
        rw [List.getD_eq_getElem?_getD, Int.toNat_natCast, List.getElem?_eq_getElem hlt]
        rfl
      have e1 : clampL a0 (xs.take (k + 1)) = clampL a0 (xs.take k) ++ [mx (lastL a0 (xs.take k)) (rd xs (k : Int))] := by rw [et, clampL_snoc]
      have e2 : lastL a0 (xs.take (k + 1)) = mx (lastL a0 (xs.take k)) (rd xs (k : Int)) := by rw [et, lastL_snoc]
      clear et
      gi_wp2
      gi_region_with_o (refine hR.mono ?_; rintro e W3 ⟨rfl, hJ3⟩)
      all_goals obtain ⟨⟨v3, c3, r3⟩, n3, l3, b3⟩ := hJI _ _ hJ3
      all_goals have nc3 := n3.cell
      all_goals have nf3 := n3.frozen
      all_goals have lc3 := l3.cell
      all_goals have hx3 := (b3.cell (World.block_lt_of_cell? w0 _ hx1)).trans hx1
      all_goals gi_wp2
      all_goals gi_region_with_o (refine ⟨trivial, ?_⟩; gi_at_call 16; refine (clock_Clamp.at _ _ trivial rfl _ _ _).mono ?_; rintro e w' ⟨rfl, rfl⟩)
      all_goals gi_wp2
      all_goals refine ⟨⟨k + 1, by omega, by simp, ?_⟩, by simp [intOf]; omega⟩
      all_goals rw [e1, e2]
      all_goals exact hJk _ _ _ _ hJ3 ((KeepsOthers.setCell _ _ _).trans (KeepsOthers.drew _)) ((hJI _ _ hJ3).set _).drew
    · have ek : k = xs.length := by omega
      rw [ek, List.take_length] at hJs
      subst ek
      gi_wp2
      go_end0
      exact ⟨⟨_, rfl⟩, hJs⟩
def apS (args : Array Value) := builtin .append #[24, 24] 24 #[] args
theorem apS_eq (cs : Array Bool) (args : Array Value) : builtin .append #[24, 24] 24 cs args = apS args := rfl
theorem R_of_own {w : World} {base base' k : Nat} {v : Value} {xs : List Int} (h : w.ownsRow base 23 1 v k (xs.map (Value.int .u64))) (hk : k = xs.length) (hb : base' ≤ base) : Kd.R (Kd.int .u64) 23 w base' (fun _ => True) v xs := by
  subst hk
  refine Kd.R_lower (base := base) ⟨fun _ _ => trivial, xs.map (Value.int .u64), h, ⟨by rw [List.length_map]; exact (Nat.mul_one _).symm, fun j p hj => ?_⟩⟩ hb
  obtain ⟨hlt, rfl⟩ := List.getElem?_eq_some_iff.1 hj
  show ((xs.map (Value.int .u64)).drop (j * 1)).take 1 = [Value.int .u64 xs[j]]
  rw [Nat.mul_one, List.drop_eq_getElem_cons (by rw [List.length_map]; exact hlt)]
  simp
attribute [local go_sem ↓ high] apS_eq
set_option maxRecDepth 100000 in
set_option maxHeartbeats 4000000 in
theorem clock_Clamps.run (a0 : Int) (A : Option Addr) (c : Nat) (xs : List Int) (w : World) (hr : Kd.C (Kd.int .u64) w A xs.length xs) (hn : xs.length ≤ 200) :
    CallsIn Fence.wide 10 Try.prog 7 #[.int .u64 a0, .slice A xs.length c] w fun e w' => ∃ v0_ : Value, e = .returned (.tuple #[v0_, .int .i64 0]) ∧ Kd.R (Kd.int .u64) 23 w' w.heap.size (fun _ => True) v0_ (clampL a0 xs) ∧ Below w.heap.size w w' := by
  obtain ⟨i0, hi, hz0, hz1, hz2⟩ := info_parts info23
  have hlen : ∀ (ts : List Int) (now : Int), (clampL now ts).length = ts.length := by
    intro ts
    induction ts with
    | nil => intro now; rfl
    | cons t ts ih => intro now; simp only [clampL, List.length_cons]; rw [ih]
  refine callsIn_of_wp_marks Try.func7 rfl trivial ?_ rfl
  simp only [Try.ntmps7, List.size_toArray, List.length_cons, List.length_nil, Nat.reduceAdd, Nat.reduceSub, Array.replicate_succ, Array.replicate_zero, List.push_toArray, List.append_toArray, List.nil_append, List.cons_append]
  gi_wp2_with (refine ⟨trivial, ?_⟩; gi_at_call 15; refine (clock_run.at Fence.wide _ trivial rfl a0 A xs.length c _).mono ?_; rintro e w' ⟨rfl, rfl⟩)
  have bO := ((Boxed.new w 24 (.slice none 0 0)).alloc (.cells #[.int .u64 a0] 23)).alloc (.cells #[.slice A xs.length c] 24)
  have bN := (Boxed.new (w.alloc (.cells #[.slice none 0 0] 24)) 23 (.int .u64 a0)).alloc (.cells #[.slice A xs.length c] 24)
  have bL := Boxed.new ((w.alloc (.cells #[.slice none 0 0] 24)).alloc (.cells #[.int .u64 a0] 23)) 24 (.slice A xs.length c)
  rw [World.size_alloc] at bN bL
  rw [World.size_alloc] at bL
  have hB0 : Below w.heap.size w (((w.alloc (.cells #[.slice none 0 0] 24)).alloc (.cells #[.int .u64 a0] 23)).alloc (.cells #[.slice A xs.length c] 24)) := (((Below.refl _ w).alloc (Nat.le_refl _) _).alloc (by simp) _).alloc (by simp; omega) _
  have hsz : (((w.alloc (.cells #[.slice none 0 0] 24)).alloc (.cells #[.int .u64 a0] 23)).alloc (.cells #[.slice A xs.length c] 24)).heap.size = w.heap.size + 3 := by simp
  generalize (((w.alloc (.cells #[.slice none 0 0] 24)).alloc (.cells #[.int .u64 a0] 23)).alloc (.cells #[.slice A xs.length c] 24)) = W0 at bO bN bL hB0 hsz ⊢
  refine rangeFunc_cells (α := Int × Int) (gf := 30) (lb := #[.pointer (some ⟨w.heap.size + 2, 0, none⟩), .pointer (some ⟨w.heap.size + 1, 0, none⟩)]) rfl (enters_of Try.func30 (by kernel_rfl) rfl)
    (fun x => #[.int .u64 x.1, .int .u64 x.2]) (fun _ => rfl) (clI w.heap.size w A xs.length c) ([], a0) (fun s x => (s.1 ++ [mx x.1 x.2], s.2)) (fun s x => x.1 = s.2 ∧ s.1.length < xs.length) (fun s => s = (clampL a0 xs, lastL a0 xs))
    (fun s W l o o' h hl ho hc => h.putObj o' (by omega) ho hc) (fun s W o h => h.alloc o) ⟨⟨_, bO, World.ownsRow_nil _ _ _ _⟩, bN, bL, hB0⟩
    (fun l J W hJI hJk hY h0 => clock_run1.seq hr hn a0 l J W hJI hJk hY h0)
    (fun x => { tmps := #[.int .u64 a0, .slice A xs.length c, undef, undef, .slice none 0 0, .int .i64 0, .pointer (some ⟨w.heap.size, 0, none⟩), .int .u64 x.1, .int .u64 x.2, .slice A xs.length c, .int .i64 xs.length, .bool (decide (200 < (xs.length : Int))), .int .u64 a0, .slice A xs.length c, .func (.func 30) #[] #[.pointer (some ⟨w.heap.size + 1 + 1, 0, none⟩), .pointer (some ⟨w.heap.size + 1, 0, none⟩)], .int .u64 x.1, .int .u64 x.2, undef, undef, undef, undef, undef, undef, undef], defers := [] }) ?assign ?body ?done
  case assign =>
    intro l x W K hK
    gi_wp2
    exact hK
  case body =>
    rintro l s ⟨x1, x2⟩ W hI ⟨hs, hlt⟩
    obtain rfl : x1 = s.2 := hs
    dsimp only
    obtain ⟨⟨v, hv, hrow⟩, hbn, hbl, hB⟩ := hI
    have hc := hv.cell
    have hf := hv.frozen
    have hmx : Try.prog.follows .mixedOrders = true := by kernel_rfl
    have h3 : w.heap.size + 3 ≤ W.heap.size := by have := hbl.lt; omega
    obtain ⟨v', w1, hap, hown', hgrow, _⟩ := run_append_own (P := Try.prog) (w := (W.alloc (.cells #[.int .u64 (mx s.2 x2)] 23)).drew) (w.heap.size + 3) 24 24 23 i0 (.int .u64 0) 1 8 Try.underlying24 hi hz0 hz1 hz2 rfl (by decide) v s.1.length (s.1.map (Value.int .u64)) (hrow.alloc _) ⟨W.heap.size, 0, none⟩ 1 1 [.int .u64 (mx s.2 x2)] rfl (cell_one_new W _ _) (by simp [Value.oneCell']) (by unfold maxLen; omega) (by omega) (by show _ ≤ (W.alloc _).heap.size; simp; omega)
    obtain ⟨g', cap', rfl⟩ := ownsRow_succ hown'
    have hapS : (apS #[v, .slice (some ⟨W.heap.size, 0, none⟩) 1 1]).run Try.prog (W.alloc (.cells #[.int .u64 (mx s.2 x2)] 23)).drew = .ok (Next.value (.slice (some ⟨g', 0, none⟩) (s.1.length + 1) cap')) w1 := by
      show Sem.run _ (do pure (Next.value (← Builtin.append_ #[24, 24] 24 _))) _ = _
      rw [Sem.run_bind, hap]
      rfl
    have hv1 : Boxed w1 w.heap.size 24 v := Boxed.kept (W := (W.alloc (.cells #[.int .u64 (mx s.2 x2)] 23)).drew) (hv.alloc _) hgrow (own_ne hrow (by omega))
    have hn1 : Boxed w1 (w.heap.size + 1) 23 (.int .u64 s.2) := Boxed.kept (W := (W.alloc (.cells #[.int .u64 (mx s.2 x2)] 23)).drew) (hbn.alloc _) hgrow (own_ne hrow (by omega))
    have hl1 : Boxed w1 (w.heap.size + 2) 24 (.slice A xs.length c) := Boxed.kept (W := (W.alloc (.cells #[.int .u64 (mx s.2 x2)] 23)).drew) (hbl.alloc _) hgrow (own_ne hrow (by omega))
    have hc1 := hv1.cell
    have hf1 := hv1.frozen
    have hset := grownBy_setCell' w1 w.heap.size (.slice (some ⟨g', 0, none⟩) (s.1.length + 1) cap')
    have hk : KeepsOthers W (w1.setCell ⟨w.heap.size, 0, none⟩ (.slice (some ⟨g', 0, none⟩) (s.1.length + 1) cap')) := by
      refine (((KeepsOthers.alloc W (.cells #[.int .u64 (mx s.2 x2)] 23)).trans (KeepsOthers.drew _)).trans (KeepsOthers.of_grownBy hgrow fun j o ej hj => ?_)).trans (KeepsOthers.setCell _ _ _)
      obtain ⟨cells, hh⟩ := own_typed (hrow.alloc (.cells #[.int .u64 (mx s.2 x2)] 23)) j ej
      rw [show (W.alloc (.cells #[.int .u64 (mx s.2 x2)] 23)).drew.heap[j]? = _ from hh] at hj
      cases hj
      rfl
    have hfin : clI w.heap.size w A xs.length c (s.1 ++ [mx s.2 x2], s.2) (w1.setCell ⟨w.heap.size, 0, none⟩ (.slice (some ⟨g', 0, none⟩) (s.1.length + 1) cap')) := by
      refine ⟨⟨_, hv1.set _, ?_⟩, hn1.kept hset (by simp), hl1.kept hset (by simp), ?_⟩
      · have := hown'.kept hset (.inr (own_ne hown' (by omega)).symm)
        simpa using this
      · exact hB.trans ((((Below.refl w.heap.size W).alloc (by omega) (.cells #[.int .u64 (mx s.2 x2)] 23)).drew.grown hgrow (by show _ ≤ (W.alloc _).heap.size; simp; omega) (fun j ej => by have := own_base hrow j ej; omega)).setCell (p := ⟨w.heap.size, 0, none⟩) (Nat.le_refl _) _)
    have hcA := (hv.alloc (.cells #[.int .u64 (mx s.2 x2)] 23)).cell
    gi_wp2
    gi_region_with_o (first | (refine ⟨trivial, ?_⟩; gi_at_call 16; refine (clock_Clamp.at Fence.wide _ trivial rfl _ _ _).inRound l |>.mono ?_; rintro e w' ⟨rfl, rfl⟩) | (rw [hapS]; simp only [Result.andThen]))
    all_goals exact ⟨rfl, hk, hfin⟩
  case done =>
    rintro D s W hD rfl ⟨⟨v, hv, hrow⟩, hbn, hbl, hB⟩ hK
    have hc := hv.cell
    gi_wp2
    refine ⟨by simp, .inl ⟨_, _, rfl, run_takeDeferred hK, ?_⟩⟩
    exact ⟨_, results_tmp2 rfl _ _ _, v, rfl, R_of_own (ownsRow_putObj hrow _ hK rfl) rfl (by omega), hB.trans (belowK_b (w := w) (Nat.le_refl _) W D _ _ (by omega) hK rfl rfl)⟩
def clock_Clamps.f (a0 : Int) (l1 : List Int) : Option (List Int × Int) := if (l1.length : Int) > 200 then some ([], 4) else some (clampL a0 l1, 0)
set_option maxRecDepth 100000 in
set_option maxHeartbeats 4000000 in
theorem clock_Clamps.calls (a0 : Int) (A1 : Option Addr) (c1 : Nat) (l1 : List Int) (r1 : List Int) (r2 : Int) (w : World) (hr1 : Kd.C (Kd.int .u64) w A1 l1.length l1) (hc1 : l1.length ≤ c1) (h : clock_Clamps.f a0 l1 = some (r1, r2)) :
  Calls Try.prog 7 #[.int .u64 a0, .slice A1 l1.length c1] w fun e w' => ∃ v0_ : Value, e = .returned (.tuple #[v0_, .int .i64 r2]) ∧ Kd.R (Kd.int .u64) 23 w' w.heap.size (fun _ => True) v0_ r1 ∧ Below w.heap.size w w' := by
  unfold clock_Clamps.f at h
  by_cases c : (l1.length : Int) > 200
  · rw [if_pos c] at h
    simp only [Option.some.injEq, Prod.mk.injEq] at h
    obtain ⟨rfl, rfl⟩ := h
    have c6b0 : decide (200 < (l1.length : Int)) = true := decide_eq_true c
    have c6b1 : decide (200 < l1.length) = true := decide_eq_true (by omega)
    clear c
    go_enter Try.func7, Try.ntmps7
    go_wp2
    go_ret2
    exact ⟨_, rfl, Kd.R_nil _ _ _ _ _, Below.refl _ _⟩
  · rw [if_neg c] at h
    simp only [Option.some.injEq, Prod.mk.injEq] at h
    obtain ⟨rfl, rfl⟩ := h
    exact (callsIn_wide (n := 10)).1 (clock_Clamps.run a0 A1 c1 l1 w hr1 (by omega))
end

end Go.Proofs.Ytiifhbaabnpkeaa.X
