-- written by xprint.py, a program of this session over the kit's print
import Derived.Test.YtjjmnafhaneflaaX0
import Derived.Test.YtjjmnafhaneflaaX13
namespace Go.Proofs.Ytjjmnafhaneflaa.X
open Go.RowKit Go.Proofs.YtjjmnafhaneflaaW.PrintWords Go.Proofs.YtjjmnafhaneflaaW.PrintLast Go.Proofs.YtjjmnafhaneflaaW.PrintMore
attribute [local go_sem] max2_int min2_int max_two min_two max_three min_three max_four min_four   -- for this text's walks alone
set_option linter.unusedVariables false
set_option linter.unusedSimpArgs false

/-! ### window_admitted: function 36 -/
theorem re1_ {α : Type} {d : Kd α} {e base a : Nat} {ok : Nat → Prop} {v : Value} {xs : List α} {w : World} (h : d.R e w base ok v xs) (ha : w.heap.size ≤ a) : d.R e w base (fun k => ok k ∧ k ≠ a) v xs := Kd.R_mono (Kd.R_bound h) (fun k hk => ⟨hk.1, by have := hk.2.2.1; omega⟩)
/-- What is admitted; acc: what was, the newest first. -/
def adm (cap : Int) (same : Int → Int → Bool) : List S58 → List S58 → List S58
  | [], _ => []
  | x :: c, acc => if x.f1 + sB (same x.f0) acc ≤ cap then x :: adm cap same c (x :: acc) else adm cap same c acc
set_option maxHeartbeats 8000000 in
set_option maxRecDepth 100000 in
theorem window_admitted.lit (x t : Int) (b : Bool) (f : FuncId) (fn : Func) (caps : Array Value) (hf : Try.prog.funcs[f]? = some fn) (hname : (fn.name == "runtime.NumGoroutine") = false) (hb : fn.body.isSome = true) (gs gx : Nat) (w : World)
  (h0 : w.cell? ⟨gs, 0, none⟩ = some (.func (.func f) #[] caps)) (hx : w.cell? ⟨gx, 0, none⟩ = some (.int .u64 x)) (hc : Calls Try.prog f (#[.int .u64 x, .int .u64 t] ++ caps) w fun e w' => e = .returned (.bool b) ∧ Below w.heap.size w w') :
  Calls Try.prog 45 #[.int .u64 t, .pointer (some ⟨gs, 0, none⟩), .pointer (some ⟨gx, 0, none⟩)] w fun e w' => e = .returned (.bool b) ∧ Below w.heap.size w w' := by
  have hu2 := Try.underlying58
  have HC := Aside0.mk hc
  clear hc
  go_enter Try.func45, Try.ntmps45
  go_wp2_with (first | ((with_reducible refine gate_calleeT (f := f) rfl ?_); refine goesLC_ (some 9) rfl rfl hf hname hb #[.int .u64 x, .int .u64 t] rfl (lb := caps) rfl (by (try simp only [List.map_toArray, List.map_cons, List.map_nil]); first | done | rfl) (full := #[.int .u64 x, .int .u64 t] ++ caps) rfl ?_; (refine HC.out.mono ?_); rintro e w9 ⟨rfl, hb⟩; refine ⟨_, rfl, ?_⟩; have HB := Aside0.mk hb; clear hb))
  go_ret
  exact ⟨rfl, HB.out⟩
set_option maxHeartbeats 8000000 in
set_option maxRecDepth 100000 in
theorem window_admitted.run (same : Int → Int → Bool) (f : FuncId) (fn : Func) (caps : Array Value) (hf : Try.prog.funcs[f]? = some fn) (hname : (fn.name == "runtime.NumGoroutine") = false) (hb : fn.body.isSome = true)
  (cap span : Int) (A : Option Addr) (c : Nat) (l : List S58) (w : World) (hC : Kd.C k58 w A l.length l) (hlen : l.length ≤ 1000) (hcost : ∀ x ∈ l, 0 ≤ x.f1 ∧ x.f1 ≤ 1000000000)
  (hin : ∀ (w' : World) (i : Nat) (h : i < l.length) (y : S58), y ∈ l.take i → Below w.heap.size w w' → Calls Try.prog f (#[.int .u64 l[i].f0, .int .u64 y.f0] ++ caps) w' fun e w'' => e = .returned (.bool (same l[i].f0 y.f0)) ∧ Below w'.heap.size w' w'') :
  Calls Try.prog 36 #[.agg #[.int .i64 cap, .int .i64 span], .slice A l.length c, .func (.func f) #[] caps] w fun e w' => ∃ v0_ : Value, e = .returned v0_ ∧ Kd.R k58 58 w' w.heap.size (fun _ => True) v0_ (adm cap same l []) ∧ Below w.heap.size w w' := by
  have hu58 := Try.underlying58
  have hu23 := Try.underlying23
  have HC := Aside0.mk hC
  have HIN := Aside0.mk hin
  have HCOST := Aside0.mk hcost
  clear hC hin hcost
  have HB := Aside0.mk (Below.refl w.heap.size w)
  go_enter Try.func36, Try.ntmps36
  go_wp2_with (first | ((with_reducible refine gate_dst (N := 3) rfl ?_); refine bx_ #[.int .i64 cap, .int .i64 span] 23 ?_; intro gw hg w5 BKw hb; have GWw := bz_ w hg; replace HB := bs_ w hb; clear hb hg) | ((with_reducible refine gate_dst (N := 5) rfl ?_); refine bx_ #[.func (.func f) #[] caps] 69 ?_; intro gs hg w6 BKs hb; have GWs := bz_ w hg; have NBws := bn_ BKw hg; have NBsw := bm_ BKw hg; replace BKw := bb_ BKw hb; replace HB := bs_ w hb; clear hb hg))
  go_loopg [7, 12] l.length (fun gg v7 v12 w' => ∃ (o : List S58) (i : Nat), v12 = .int .i64 (i : Int) ∧ Aside0 (i ≤ l.length ∧ l.length - i ≤ gg) ∧ Aside0 (Kd.R k58 58 w' w.heap.size (fun _ => True) v7 o) ∧ Aside0 (∀ y ∈ o, y ∈ l.take i) ∧ Aside0 (o.length ≤ i) ∧ Aside0 (adm cap same l [] = o ++ adm cap same (l.drop i) o.reverse) ∧
    Aside0 (w'.heap[gw]? = some (.cells #[.int .i64 cap, .int .i64 span] 23 (0, 0))) ∧ Aside0 (w'.heap[gs]? = some (.cells #[.func (.func f) #[] caps] 69 (0, 0))) ∧ Aside0 (Below w.heap.size w w'))
  case atStart => exact ⟨[], 0, rf_, ⟨by omega, by omega⟩, ⟨Kd.R_nil _ _ _ _ _⟩, ⟨fun y hy => by cases hy⟩, ⟨Nat.le_refl _⟩, ⟨rfl⟩, ⟨bq_ BKw⟩, ⟨bq_ BKs⟩, bw_⟩
  case round =>
    obtain ⟨o, i, rfl, HI, HO, HM, HL, HA, BKw, BKs, HB⟩ := hrel
    by_cases c4 : (i : Int) < (l.length : Int)
    · have hil : i < l.length := by omega
      have p0 : 0 ≤ (i : Int) := by omega
      obtain ⟨ad, e, hx0, hx1⟩ := at_T58 HC.out i p0 c4
      cases e
      have er : rd_T58 l (i : Int) = l[i] := by
        unfold rd_T58
        rw [List.getD_eq_getElem?_getD, Int.toNat_natCast, List.getElem?_eq_getElem hil]
        rfl
      rw [er, Int.toNat_natCast] at hx0 hx1
      replace hx0 := (HB.out.cell (World.block_lt_of_cell? w _ hx0)).trans hx0
      replace hx1 := (HB.out.cell (World.block_lt_of_cell? w _ hx1)).trans hx1
      have P0 := Aside0.mk c4
      replace p0 := eq_true p0
      replace c4 := eq_true c4
      obtain ⟨Ao, co, eo⟩ := Kd.R_slice HO.out
      subst eo
      go_wp2
      obtain ⟨gx, hg⟩ : ∃ g, g = wr.heap.size := ⟨_, rfl⟩
      have hbx : (wr.alloc (.cells #[.int .u64 l[i].f0, .int .i64 l[i].f1] 58)).heap[wr.heap.size]? = some (.cells #[.int .u64 l[i].f0, .int .i64 l[i].f1] 58 (0, 0)) := blk_new wr _
      have hb : Below wr.heap.size wr (wr.alloc (.cells #[.int .u64 l[i].f0, .int .i64 l[i].f1] 58)) := below_alloc (Below.refl _ _) _
      generalize wr.alloc (.cells #[.int .u64 l[i].f0, .int .i64 l[i].f1] 58) = w7 at hbx hb ⊢
      rw [← hg] at hbx ⊢
      have BKx := Aside0.mk hbx
      have GWx := bz_ w hg
      have NBwx := bn_ BKw hg
      have NBxw := bm_ BKw hg
      have NBsx := bn_ BKs hg
      have NBxs := bm_ BKs hg
      replace BKw := bb_ BKw hb
      replace BKs := bb_ BKs hb
      replace HO := Aside0.mk (Kd.R_below (re1_ HO.out (Nat.le_of_eq hg.symm)) hb)
      replace HB := bs_ w hb
      clear hb hg hbx hx0 hx1
      replace BKx := Aside0.mk (blk_drew BKx.out)
      replace BKw := Aside0.mk (blk_drew BKw.out)
      replace BKs := Aside0.mk (blk_drew BKs.out)
      replace HO := Aside0.mk (Kd.R_drew HO.out)
      replace HB := Aside0.mk (below_drew1 HB.out)
      refine start_ (n := 9) (S := fun w' => w'.cell? ⟨gx, 1, none⟩ = some (.int .i64 l[i].f1) ∧ w'.cell? ⟨gw, 0, none⟩ = some (.int .i64 cap)) (ds := []) (bl_ 9 0) (by kernel_rfl) rfl (by kernel_rfl) ⟨(blk_cell BKx.out 1).trans rfl, (blk_cell BKw.out 0).trans rfl⟩ (fun hHeld => ?_)
      refine with_tabW (T := rtab .any (opsOf Try.f36 5)) (B := [0, 1, 0, 0, 12, 31, 0, 64, 255]) rfl (by kernel_rfl) (fun HT_ HW_ => ?_)
      generalize w7.drew = w8 at BKx BKw BKs HO HB hHeld ⊢
      refine pa_ 0 (some 16) (bl_ 9 1) HT_ ?_
      refine pa_ 2 (some 18) (bl_ 9 5) HT_ ?_
      refine pa_ 3 (some 19) (bl_ 9 13) HT_ ?_
      refine pa_ 6 (some 22) (bl_ 9 77) HT_ ?_
      refine ta_ 1 (some 17) (bl_ 9 79) HT_ HW_ hHeld ?_
      refine ta_ 7 (some 23) (bl_ 9 207) HT_ HW_ hHeld ?_
      refine oa_ 4 (some 20) (bl_ 9 223) HT_ fun K hK => ?_
      refine goesB_ Try.func33 #[.slice Ao o.length co, .func (.func 45) #[] #[.pointer (some ⟨gs, 0, none⟩), .pointer (some ⟨gx, 0, none⟩)]] ?_
      have hoC := (Kd.R_reads' HO.out).2.2
      have hol := HL.out
      have sub : ∀ y ∈ o, y ∈ l := fun y hy => List.mem_of_mem_take (HM.out y hy)
      refine (window_summed.run (same l[i].f0) 45 Try.f45 #[.pointer (some ⟨gs, 0, none⟩), .pointer (some ⟨gx, 0, none⟩)] Try.func45 (by kernel_rfl) rfl Ao co o w8 hoC (by omega) (fun y hy => HCOST.out y (sub y hy)) (fun w' y hy hb => ?_)).mono ?_
      · have h1 := (bb_ BKs hb).out
        have h2 := (bb_ BKx hb).out
        have h3 : Aside0 (Below w.heap.size w w') := bs_ w hb
        exact window_admitted.lit l[i].f0 y.f0 (same l[i].f0 y.f0) f fn caps hf hname ‹_› gs gx w' ((blk_cell h1 0).trans rfl) ((blk_cell h2 0).trans rfl) (HIN.out w' i hil y (HM.out y hy) h3.out)
      rintro e w9 ⟨rfl, hb⟩
      refine ⟨_, rfl, ?_⟩
      replace BKx := bb_ BKx hb
      replace BKw := bb_ BKw hb
      replace BKs := bb_ BKs hb
      replace HO := rb_ HO hb
      replace HB := bs_ w hb
      clear hb hoC
      refine hK.out _ _ ⟨(blk_cell BKx.out 1).trans rfl, (blk_cell BKw.out 0).trans rfl⟩ (fun hHeld => ?_)
      clear hK K
      refine nm_ (some 20) ?_
      refine pa_ 5 (some 21) (bl_ 9 255) HT_ ?_
      refine pa_ 8 (some 24) (bl_ 9 511) HT_ ?_
      refine done_ (done_of HT_.out (by kernel_rfl)) ?_
      clear HT_ HW_ hHeld
      have hbd := sB_bd (p := same l[i].f0) (r := o.reverse) fun x hx => HCOST.out x (sub x (List.mem_reverse.1 hx))
      rw [List.length_reverse] at hbd
      have hcx := HCOST.out l[i] (List.getElem_mem hil)
      have w1 : wrap64 (l[i].f1 + sB (same l[i].f0) o.reverse) = l[i].f1 + sB (same l[i].f0) o.reverse := by unfold wrap64; omega
      have ew : wrap64 ((i : Int) + 1) = ((i + 1 : Nat) : Int) := by unfold wrap64; omega
      have hd : l.drop i = l[i] :: l.drop (i + 1) := List.drop_eq_getElem_cons hil
      have HTK : Aside0 (∀ y, y ∈ l.take i → y ∈ l.take (i + 1)) := ⟨fun y hy => by rw [List.take_add_one]; exact List.mem_append.2 (Or.inl hy)⟩
      have HTI : Aside0 (l[i] ∈ l.take (i + 1)) := ⟨by rw [List.take_add_one, List.getElem?_eq_getElem hil, Option.toList_some]; exact List.mem_append.2 (Or.inr (List.mem_singleton.2 rfl))⟩
      by_cases ha : l[i].f1 + sB (same l[i].f0) o.reverse ≤ cap
      · have cb : decide (wrap64 (l[i].f1 + sB (same l[i].f0) o.reverse) ≤ cap) = true := by rw [w1]; exact decide_eq_true ha
        have HA2 : Aside0 (adm cap same l [] = (o ++ [l[i]]) ++ adm cap same (l.drop (i + 1)) (o ++ [l[i]]).reverse) := ⟨by
          rw [HA.out, hd, List.reverse_append, List.reverse_singleton, List.singleton_append, List.append_assoc]
          show o ++ (if _ then _ else _) = _
          rw [if_pos ha]
          rfl⟩
        clear hbd hcx ha hd w1
        (first | rw [cb] | (simp only [i64_w, i32_w]; rw [cb]))
        obtain ⟨hcx0, hcx1, hfx0, hfx1⟩ := ce2_ BKx
        go_wp2_with (first | ((with_reducible refine gate_builtin (b := .append) (xs := #[.tmp 25, .tmp 27]) rfl ?_); at_builtin; refine Kd.R_append k58 (w0 := w) w.heap.size rfl (.tmp 25) (.tmp 27) 24 58 (.agg #[(.int .u64 0), (.int .i64 0)]) 16 rfl Try.underlying24 info58 rfl (by decide) (by omega) (.slice Ao o.length co) o (⟨l[i].f0, l[i].f1⟩ : S58) [.int .u64 l[i].f0, .int .i64 l[i].f1] (fun _ => True) (fun _ => False) rfl rfl ?aP (fun _ hk => hk.elim) ?aF ?aO ?aB ?aS ?aL ?_; (case aP => exact k58_mkM _ _ _ (⟨l[i].f0, l[i].f1⟩ : S58)); (case aB => exact bh_); (case aF => exact (fun _ _ => trivial)); (case aO => exact (Kd.R_mono (rs_ HO) (fun _ _ => trivial))); (case aS => exact (below_size bh_)); (case aL => omega); intro v28 w28 ho hb hg hat; have HO2 := Aside0.mk ho; replace BKw := Aside0.mk (blk_grown (g := gw) (o := .cells #[.int .i64 cap, .int .i64 span] 23 (0, 0)) (bq_ BKw) hg (Kd.R_ne HO.out BKw.out (by decide))); replace BKs := Aside0.mk (blk_grown (g := gs) (o := .cells #[.func (.func f) #[] caps] 69 (0, 0)) (bq_ BKs) hg (Kd.R_ne HO.out BKs.out (by decide))); replace HB := Aside0.mk hb; clear ho hb hg hat))
        go_roundg (gk - 1)
        case measure => have := HI.out; have := P0.out; omega
        case rel => exact ⟨o ++ [l[i]], i + 1, rf_, ⟨by have := HI.out; have := P0.out; omega, by have := HI.out; have := P0.out; omega⟩, ⟨rs_ HO2⟩, ⟨fun y hy => by
            rcases List.mem_append.1 hy with h | h
            · exact HTK.out y (HM.out y h)
            · rw [List.mem_singleton.1 h]; exact HTI.out⟩, ⟨by simp; omega⟩, HA2, ⟨bq_ BKw⟩, ⟨bq_ BKs⟩, bw_⟩
      · have cb : decide (wrap64 (l[i].f1 + sB (same l[i].f0) o.reverse) ≤ cap) = false := by rw [w1]; exact decide_eq_false ha
        have HA2 : Aside0 (adm cap same l [] = o ++ adm cap same (l.drop (i + 1)) o.reverse) := ⟨by
          rw [HA.out, hd]
          show o ++ (if _ then _ else _) = _
          rw [if_neg ha]⟩
        clear hbd hcx ha hd w1
        (first | rw [cb] | (simp only [i64_w, i32_w]; rw [cb]))
        go_wp2
        go_roundg (gk - 1)
        case measure => have := HI.out; have := P0.out; omega
        case rel => exact ⟨o, i + 1, rf_, ⟨by have := HI.out; have := P0.out; omega, by have := HI.out; have := P0.out; omega⟩, ⟨Kd.R_mono (rs_ HO) (fun _ _ => trivial)⟩, ⟨fun y hy => HTK.out y (HM.out y hy)⟩, ⟨by omega⟩, HA2, ⟨bq_ BKw⟩, ⟨bq_ BKs⟩, bw_⟩
    · have MISS : Aside0 (adm cap same l [] = o) := ⟨by rw [HA.out, List.drop_eq_nil_of_le (by omega)]; show o ++ [] = o; rw [List.append_nil]⟩
      replace c4 := eq_false c4
      go_wp2
      go_ret
      exact ⟨_, rfl, by rw [MISS.out]; exact HO.out, HB.out⟩
def inS (span : Int) (x t : Int) : Bool := decide (x - t < span)
def bg (span t : Int) : Int := t - t % span
def inF (span : Int) (x t : Int) : Bool := decide (bg span x = bg span t)
/-- Charges as window.Charges lets them by, and the ticks not below t. -/
def okB : List S58 → Int → Bool
  | [], _ => true
  | x :: l, t => decide (t ≤ x.f0) && (decide (x.f0 < 18446744073709551616) && (decide (0 ≤ x.f1) && (decide (x.f1 ≤ 1000000000) && okB l x.f0)))
def okW (cap span : Int) (l : List S58) : Bool := decide (1 ≤ cap) && (decide (cap ≤ 1000000000) && (decide (1 ≤ span) && (decide (span ≤ 1000000000) && (decide (l.length ≤ 1000) && okB l 0))))
theorem okB_spec : ∀ {l : List S58} {t : Int}, okB l t = true → (∀ x ∈ l, t ≤ x.f0 ∧ x.f0 < 18446744073709551616 ∧ 0 ≤ x.f1 ∧ x.f1 ≤ 1000000000) ∧ ∀ (i : Nat) (h : i < l.length) (y : S58), y ∈ l.take i → y.f0 ≤ l[i].f0
  | [], _, _ => ⟨fun x hx => (by cases hx), fun i h => (by simp at h)⟩
  | x :: l, t, h => by
    simp only [okB, Bool.and_eq_true, decide_eq_true_eq] at h
    obtain ⟨h1, h2, h3, h4, h5⟩ := h
    obtain ⟨i1, i2⟩ := okB_spec h5
    refine ⟨fun y hy => ?_, fun i h y hy => ?_⟩
    · rcases List.mem_cons.1 hy with e | hy
      · rw [e]; exact ⟨h1, h2, h3, h4⟩
      · have := i1 y hy
        exact ⟨by omega, this.2⟩
    · cases i with
      | zero => simp at hy
      | succ i =>
        have hil : i < l.length := by simpa using h
        rw [List.take_succ_cons] at hy
        rw [List.getElem_cons_succ]
        rcases List.mem_cons.1 hy with e | hy
        · rw [e]; exact (i1 _ (List.getElem_mem hil)).1
        · exact i2 i hil y hy
theorem okW_spec {cap span : Int} {l : List S58} (h : okW cap span l = true) : 1 ≤ cap ∧ cap ≤ 1000000000 ∧ 1 ≤ span ∧ span ≤ 1000000000 ∧ l.length ≤ 1000 ∧ okB l 0 = true := by
  simp only [okW, Bool.and_eq_true, decide_eq_true_eq] at h
  exact h
theorem wrapU {x : Int} (h0 : 0 ≤ x) (h1 : x < 18446744073709551616) : IntKind.u64.wrap x = x := by
  have : IntKind.u64.wrap x = x % 18446744073709551616 := by simp [IntKind.wrap, IntKind.bits, IntKind.signed]
  rw [this]
  omega

end Go.Proofs.Ytjjmnafhaneflaa.X
