-- written by xprint.py, a program of this session over the kit's print
import Derived.Test.YtnijohomnajngaaX0
import Derived.Test.YtnijohomnajngaaX1
import Derived.Test.YtnijohomnajngaaX2
namespace Go.Proofs.Ytnijohomnajngaa.X
open Go.RowKit Go.Proofs.YtnijohomnajngaaW.PrintWords Go.Proofs.YtnijohomnajngaaW.PrintLast Go.Proofs.YtnijohomnajngaaW.PrintMore
attribute [local go_sem] max2_int min2_int max_two min_two max_three min_three max_four min_four   -- for this text's walks alone
set_option linter.unusedVariables false
set_option linter.unusedSimpArgs false

attribute [local go_sem high] eqA23 eqA26
/-! ### spigotlaw37_given: function 24 -/
def spigotlaw37_given.f  : Option (Int × Int × Int) := some (3, 2, 5)
set_option maxHeartbeats 8000000 in
set_option maxRecDepth 100000 in
theorem spigotlaw37_given.calls  (r1 : Int) (r2 : Int) (r3 : Int) (w : World) (h : spigotlaw37_given.f  = some (r1, r2, r3)) :
  Calls Try.prog 24 #[] w fun e w' => e = .returned (.agg #[.int .i64 r1, .int .i64 r2, .int .i64 r3]) ∧ Below w.heap.size w w' := by
 have hu23 := Try.underlying23
 have HB := Aside0.mk (Below.refl w.heap.size w)
 have H : (some (3, 2, 5)) = some (r1, r2, r3) := h
 clear h
 simp only [Option.some.injEq, Prod.mk.injEq] at H
 obtain ⟨rfl, rfl, rfl⟩ := H
 go_enter Try.func24, Try.ntmps24
 go_wp2_with (first | ((with_reducible refine gate_dst (N := 0) rfl ?_); refine bx_ #[.int .i64 0, .int .i64 0, .int .i64 0] 23 ?_; intro gb533 hg w1 BK533 hb; have GW533 := bz_ w hg; replace HB := bs_ w hb; clear hb hg; replace hc533 := ce3_ BK533))
 refine bodyPost_ret (results_cell_row rfl _ _ gb533 23 #[.int .i64 3, .int .i64 2, .int .i64 5] (0, 0) _ rfl (bp3_ (bq_ BK533)) Try.underlying23 rfl (by kernel_rfl)) rfl ?_
 exact fi_

/-! ### spigotlaw37_tat: function 25 -/
def spigotlaw37_tat.f (a0_0 : Int) (a0_1 : Int) (a0_2 : Int) (a0_3 : Int) (a0_4 : Int) (a0_5 : Int) (a1 : Int) (a2 : Int) (a3 : Int) : Option (Bool) := if a1 = 0 then ((spigotlaw37_given.f).bind fun bt535 => (if (a0_0 == bt535.1 && (a0_1 == bt535.2.1 && (a0_2 == bt535.2.2))) = true then (if (a0_3 == 0 && (a0_4 == a2)) = true then (some (a0_5 == a3)) else (some false)) else (some false))) else (some false)
def spigotlaw37_tat.T1 : Bool × List (List Nat × List Nat) := (true, [([], []), ([0], [0]), ([1], [1]), ([2], [2]), ([3, 2], [2, 3]), ([2, 2], [2]), ([4, 5, 2], [2, 4, 5]), ([2, 6], [2, 6]), ([7, 5], [7]), ([8], [8]), ([9, 8], [8, 9]), ([8], [8]), ([11, 8], [8, 11]), ([10, 12, 8], [8, 10, 12]), ([8, 13], [8, 13]), ([14, 8], [14]), ([15], [15]), ([16, 15], [15, 16]), ([15], [15]), ([17, 18, 15], [15, 17, 18]), ([15, 19], [15, 19]), ([20, 15, 0, 1, 2, 3, 4, 5, 6, 7, 8, 9, 10, 11, 12, 13, 14, 15, 16, 17, 18, 19, 20], [20])])
def spigotlaw37_tat.B1 : List Nat := [0, 1, 3, 7, 15, 7, 63, 127, 255, 511, 1023, 511, 2559, 8191, 16383, 32767, 65535, 131071, 65535, 524287, 1048575, 2097151]
theorem spigotlaw37_tat.tab1 : rtab .any (opsOf Try.f25 1) = spigotlaw37_tat.T1 := by kernel_rfl
theorem spigotlaw37_tat.bits1 : waitsOk spigotlaw37_tat.T1.2 spigotlaw37_tat.B1 = true := by kernel_rfl
set_option maxHeartbeats 8000000 in
set_option maxRecDepth 100000 in
theorem spigotlaw37_tat.calls (a0_0 : Int) (a0_1 : Int) (a0_2 : Int) (a0_3 : Int) (a0_4 : Int) (a0_5 : Int) (a1 : Int) (a2 : Int) (a3 : Int) (r : Bool) (w : World) (h : spigotlaw37_tat.f a0_0 a0_1 a0_2 a0_3 a0_4 a0_5 a1 a2 a3 = some r) :
  Calls Try.prog 25 #[.agg #[.int .i64 a0_0, .int .i64 a0_1, .int .i64 a0_2, .int .u64 a0_3, .int .u64 a0_4, .int .u64 a0_5], .int .i64 a1, .int .u64 a2, .int .u64 a3] w fun e w' => e = .returned (.bool r) ∧ Below w.heap.size w w' := by
 have hu28 := Try.underlying28
 have hu23 := Try.underlying23
 have hu26 := Try.underlying26
 have HB := Aside0.mk (Below.refl w.heap.size w)
 have H : (if a1 = 0 then ((spigotlaw37_given.f).bind fun bt535 => (if (a0_0 == bt535.1 && (a0_1 == bt535.2.1 && (a0_2 == bt535.2.2))) = true then (if (a0_3 == 0 && (a0_4 == a2)) = true then (some (a0_5 == a3)) else (some false)) else (some false))) else (some false)) = some r := h
 clear h
 by_cases c5 : a1 = 0
 ·rw [if_pos c5] at H
  have c5b0 : (a1 == 0) = true := beq_iff_eq.mpr c5
  have c5b1 : (a1 != 0) = false := bne_eq_false_iff_eq.mpr c5
  clear c5
  have H0_ := bo_ H; clear H; obtain ⟨⟨t535, t536, t537⟩, A6, H⟩ := H0_
  try dsimp only at H
  by_cases c7 : (a0_0 == t535 && (a0_1 == t536 && (a0_2 == t537))) = true
  ·rw [if_pos c7] at H
   have c7b0 : (a0_0 == t535 && (a0_1 == t536 && (a0_2 == t537))) = true := c7
   (try (have c7b1 : decide (a0_0 = t535 && (a0_1 == t536 && (a0_2 == t537))) = true := by simpa using c7))
   (try (have c7b2 : (a0_0 == t535 && (a0_1 == t536 && (a0_2 == t537))) = true := by simpa using c7))
   clear c7
   by_cases c8 : (a0_3 == 0 && (a0_4 == a2)) = true
   ·rw [if_pos c8] at H
    have c8b0 : (a0_3 == 0 && (a0_4 == a2)) = true := c8
    (try (have c8b1 : decide (a0_3 = 0 && (a0_4 == a2)) = true := by simpa using c8))
    (try (have c8b2 : (a0_3 == 0 && (a0_4 == a2)) = true := by simpa using c8))
    clear c8
    obtain rfl := Option.some.inj H
    go_enter Try.func25, Try.ntmps25
    try go_wp2_with (first | ((with_reducible refine gate_dst (N := 4) rfl ?_); (try refine ug_ (by rfl) ?_); refine bx_ #[.int .i64 a0_0, .int .i64 a0_1, .int .i64 a0_2, .int .u64 a0_3, .int .u64 a0_4, .int .u64 a0_5] 28 ?_; intro gb534 hg w9 BK534 hb; have GW534 := bz_ w hg; have GE534 := GW534; replace HB := bs_ w hb; clear hb hg))
    replace BK534 := Aside0.mk (blk_drew BK534.out)
    replace HB := Aside0.mk (below_drew1 HB.out)
    refine start_ (n := 22) (S := fun w' => w'.cell? ⟨gb534, 0, none⟩ = some (.int .i64 a0_0) ∧ w'.cell? ⟨gb534, 1, none⟩ = some (.int .i64 a0_1) ∧ w'.cell? ⟨gb534, 2, none⟩ = some (.int .i64 a0_2) ∧ w'.cell? ⟨gb534, 3, none⟩ = some (.int .u64 a0_3) ∧ w'.cell? ⟨gb534, 4, none⟩ = some (.int .u64 a0_4) ∧ w'.cell? ⟨gb534, 5, none⟩ = some (.int .u64 a0_5)) (ds := []) (bl_ 22 0) (by kernel_rfl) rfl (by kernel_rfl) (cc6_ BK534) (fun hHeld => ?_); refine with_tabW spigotlaw37_tat.tab1 spigotlaw37_tat.bits1 (fun HT_ HW_ => ?_)
    generalize w9.drew = w10 at BK534 HB hHeld ⊢
    refine pa_ 0 (some 9) (bl_ 22 1) HT_ ?_
    refine pa_ 1 (some 10) (bl_ 22 3) HT_ ?_
    refine pa_ 2 (some 11) (bl_ 22 7) HT_ ?_
    refine pa_ 3 (some 12) (bl_ 22 15) HT_ ?_
    refine ta_ 4 (some 13) (bl_ 22 31) HT_ HW_ hHeld ?_
    refine oa_ 5 (some 14) (bl_ 22 63) HT_ fun K hK => ?_
    refine goesB_ Try.func24 #[] ?_
    with_reducible refine (spigotlaw37_given.calls  t535 t536 t537 _ A6.out).mono ?_
    rintro e w11 ⟨rfl, hb⟩
    refine ⟨_, rfl, ?_⟩
    replace BK534 := bb_ BK534 hb
    replace HB := bs_ w hb
    clear hb
    refine hK.out _ _ (cc6_ BK534) (fun hHeld => ?_)
    clear hK K
    refine nm_ (some 14) ?_
    refine pa_ 6 (some 15) (bl_ 22 127) HT_ ?_
    refine pa_ 7 (some 16) (bl_ 22 255) HT_ ?_
    refine pa_ 8 (some 17) (bl_ 22 511) HT_ ?_
    refine pa_ 9 (some 18) (bl_ 22 1023) HT_ ?_
    refine pa_ 11 (some 20) (bl_ 22 3071) HT_ ?_
    refine pa_ 12 (some 21) (bl_ 22 7167) HT_ ?_
    refine ta_ 10 (some 19) (bl_ 22 8191) HT_ HW_ hHeld ?_
    refine pa_ 13 (some 22) (bl_ 22 16383) HT_ ?_
    refine pa_ 14 (some 23) (bl_ 22 32767) HT_ ?_
    refine pa_ 15 (some 24) (bl_ 22 65535) HT_ ?_
    refine pa_ 16 (some 25) (bl_ 22 131071) HT_ ?_
    refine pa_ 18 (some 27) (bl_ 22 393215) HT_ ?_
    refine ta_ 17 (some 26) (bl_ 22 524287) HT_ HW_ hHeld ?_
    refine pa_ 19 (some 28) (bl_ 22 1048575) HT_ ?_
    refine pa_ 20 (some 29) (bl_ 22 2097151) HT_ ?_
    refine pa_ 21 (some 8) (bl_ 22 4194303) HT_ ?_
    refine done_ (done_of HT_.out (by kernel_rfl)) ?_
    try go_wp2
    go_ret
    exact fi_
   ·rw [if_neg c8] at H
    have c8b0 : (a0_3 == 0 && (a0_4 == a2)) = false := by simpa using c8
    (try (have c8b1 : decide (a0_3 = 0 && (a0_4 == a2)) = false := by simpa using c8))
    (try (have c8b2 : (a0_3 == 0 && (a0_4 == a2)) = false := by simpa using c8))
    (try (have c8b3 : ¬ (a0_3 = 0 && (a0_4 == a2)) := by simpa using c8))
    clear c8
    obtain rfl := Option.some.inj H
    go_enter Try.func25, Try.ntmps25
    try go_wp2_with (first | ((with_reducible refine gate_dst (N := 4) rfl ?_); (try refine ug_ (by rfl) ?_); refine bx_ #[.int .i64 a0_0, .int .i64 a0_1, .int .i64 a0_2, .int .u64 a0_3, .int .u64 a0_4, .int .u64 a0_5] 28 ?_; intro gb534 hg w12 BK534 hb; have GW534 := bz_ w hg; have GE534 := GW534; replace HB := bs_ w hb; clear hb hg))
    replace BK534 := Aside0.mk (blk_drew BK534.out)
    replace HB := Aside0.mk (below_drew1 HB.out)
    refine start_ (n := 22) (S := fun w' => w'.cell? ⟨gb534, 0, none⟩ = some (.int .i64 a0_0) ∧ w'.cell? ⟨gb534, 1, none⟩ = some (.int .i64 a0_1) ∧ w'.cell? ⟨gb534, 2, none⟩ = some (.int .i64 a0_2) ∧ w'.cell? ⟨gb534, 3, none⟩ = some (.int .u64 a0_3) ∧ w'.cell? ⟨gb534, 4, none⟩ = some (.int .u64 a0_4) ∧ w'.cell? ⟨gb534, 5, none⟩ = some (.int .u64 a0_5)) (ds := []) (bl_ 22 0) (by kernel_rfl) rfl (by kernel_rfl) (cc6_ BK534) (fun hHeld => ?_); refine with_tabW spigotlaw37_tat.tab1 spigotlaw37_tat.bits1 (fun HT_ HW_ => ?_)
    generalize w12.drew = w13 at BK534 HB hHeld ⊢
    refine pa_ 0 (some 9) (bl_ 22 1) HT_ ?_
    refine pa_ 1 (some 10) (bl_ 22 3) HT_ ?_
    refine pa_ 2 (some 11) (bl_ 22 7) HT_ ?_
    refine pa_ 3 (some 12) (bl_ 22 15) HT_ ?_
    refine ta_ 4 (some 13) (bl_ 22 31) HT_ HW_ hHeld ?_
    refine oa_ 5 (some 14) (bl_ 22 63) HT_ fun K hK => ?_
    refine goesB_ Try.func24 #[] ?_
    with_reducible refine (spigotlaw37_given.calls  t535 t536 t537 _ A6.out).mono ?_
    rintro e w14 ⟨rfl, hb⟩
    refine ⟨_, rfl, ?_⟩
    replace BK534 := bb_ BK534 hb
    replace HB := bs_ w hb
    clear hb
    refine hK.out _ _ (cc6_ BK534) (fun hHeld => ?_)
    clear hK K
    refine nm_ (some 14) ?_
    refine pa_ 6 (some 15) (bl_ 22 127) HT_ ?_
    refine pa_ 7 (some 16) (bl_ 22 255) HT_ ?_
    refine pa_ 8 (some 17) (bl_ 22 511) HT_ ?_
    refine pa_ 9 (some 18) (bl_ 22 1023) HT_ ?_
    refine pa_ 11 (some 20) (bl_ 22 3071) HT_ ?_
    refine pa_ 12 (some 21) (bl_ 22 7167) HT_ ?_
    refine ta_ 10 (some 19) (bl_ 22 8191) HT_ HW_ hHeld ?_
    refine pa_ 13 (some 22) (bl_ 22 16383) HT_ ?_
    refine pa_ 14 (some 23) (bl_ 22 32767) HT_ ?_
    refine pa_ 15 (some 24) (bl_ 22 65535) HT_ ?_
    refine pz_ 16 (some 25) (bl_ 22 131071) HT_ ?_
    refine pz_ 17 (some 26) (bl_ 22 262143) HT_ ?_
    refine pz_ 18 (some 27) (bl_ 22 524287) HT_ ?_
    refine pz_ 19 (some 28) (bl_ 22 1048575) HT_ ?_
    refine pa_ 20 (some 29) (bl_ 22 2097151) HT_ ?_
    refine pa_ 21 (some 8) (bl_ 22 4194303) HT_ ?_
    refine done_ (done_of HT_.out (by kernel_rfl)) ?_
    try go_wp2
    go_ret
    exact fi_
  ·rw [if_neg c7] at H
   have c7b0 : (a0_0 == t535 && (a0_1 == t536 && (a0_2 == t537))) = false := by simpa using c7
   (try (have c7b1 : decide (a0_0 = t535 && (a0_1 == t536 && (a0_2 == t537))) = false := by simpa using c7))
   (try (have c7b2 : (a0_0 == t535 && (a0_1 == t536 && (a0_2 == t537))) = false := by simpa using c7))
   (try (have c7b3 : ¬ (a0_0 = t535 && (a0_1 == t536 && (a0_2 == t537))) := by simpa using c7))
   clear c7
   obtain rfl := Option.some.inj H
   go_enter Try.func25, Try.ntmps25
   try go_wp2_with (first | ((with_reducible refine gate_dst (N := 4) rfl ?_); (try refine ug_ (by rfl) ?_); refine bx_ #[.int .i64 a0_0, .int .i64 a0_1, .int .i64 a0_2, .int .u64 a0_3, .int .u64 a0_4, .int .u64 a0_5] 28 ?_; intro gb534 hg w15 BK534 hb; have GW534 := bz_ w hg; have GE534 := GW534; replace HB := bs_ w hb; clear hb hg))
   replace BK534 := Aside0.mk (blk_drew BK534.out)
   replace HB := Aside0.mk (below_drew1 HB.out)
   refine start_ (n := 22) (S := fun w' => w'.cell? ⟨gb534, 0, none⟩ = some (.int .i64 a0_0) ∧ w'.cell? ⟨gb534, 1, none⟩ = some (.int .i64 a0_1) ∧ w'.cell? ⟨gb534, 2, none⟩ = some (.int .i64 a0_2) ∧ w'.cell? ⟨gb534, 3, none⟩ = some (.int .u64 a0_3) ∧ w'.cell? ⟨gb534, 4, none⟩ = some (.int .u64 a0_4) ∧ w'.cell? ⟨gb534, 5, none⟩ = some (.int .u64 a0_5)) (ds := []) (bl_ 22 0) (by kernel_rfl) rfl (by kernel_rfl) (cc6_ BK534) (fun hHeld => ?_); refine with_tabW spigotlaw37_tat.tab1 spigotlaw37_tat.bits1 (fun HT_ HW_ => ?_)
   generalize w15.drew = w16 at BK534 HB hHeld ⊢
   refine pa_ 0 (some 9) (bl_ 22 1) HT_ ?_
   refine pa_ 1 (some 10) (bl_ 22 3) HT_ ?_
   refine pa_ 2 (some 11) (bl_ 22 7) HT_ ?_
   refine pa_ 3 (some 12) (bl_ 22 15) HT_ ?_
   refine ta_ 4 (some 13) (bl_ 22 31) HT_ HW_ hHeld ?_
   refine oa_ 5 (some 14) (bl_ 22 63) HT_ fun K hK => ?_
   refine goesB_ Try.func24 #[] ?_
   with_reducible refine (spigotlaw37_given.calls  t535 t536 t537 _ A6.out).mono ?_
   rintro e w17 ⟨rfl, hb⟩
   refine ⟨_, rfl, ?_⟩
   replace BK534 := bb_ BK534 hb
   replace HB := bs_ w hb
   clear hb
   refine hK.out _ _ (cc6_ BK534) (fun hHeld => ?_)
   clear hK K
   refine nm_ (some 14) ?_
   refine pa_ 6 (some 15) (bl_ 22 127) HT_ ?_
   refine pa_ 7 (some 16) (bl_ 22 255) HT_ ?_
   refine pa_ 8 (some 17) (bl_ 22 511) HT_ ?_
   refine pz_ 9 (some 18) (bl_ 22 1023) HT_ ?_
   refine pz_ 10 (some 19) (bl_ 22 2047) HT_ ?_
   refine pz_ 11 (some 20) (bl_ 22 4095) HT_ ?_
   refine pz_ 12 (some 21) (bl_ 22 8191) HT_ ?_
   refine pz_ 13 (some 22) (bl_ 22 16383) HT_ ?_
   refine pa_ 14 (some 23) (bl_ 22 32767) HT_ ?_
   refine pa_ 15 (some 24) (bl_ 22 65535) HT_ ?_
   refine pz_ 16 (some 25) (bl_ 22 131071) HT_ ?_
   refine pz_ 17 (some 26) (bl_ 22 262143) HT_ ?_
   refine pz_ 18 (some 27) (bl_ 22 524287) HT_ ?_
   refine pz_ 19 (some 28) (bl_ 22 1048575) HT_ ?_
   refine pa_ 20 (some 29) (bl_ 22 2097151) HT_ ?_
   refine pa_ 21 (some 8) (bl_ 22 4194303) HT_ ?_
   refine done_ (done_of HT_.out (by kernel_rfl)) ?_
   try go_wp2
   go_ret
   exact fi_
 ·rw [if_neg c5] at H
  have c5b0 : (a1 == 0) = false := beq_eq_false_iff_ne.mpr c5
  have c5b1 : (a1 != 0) = true := bne_iff_ne.mpr c5
  obtain rfl := Option.some.inj H
  go_enter Try.func25, Try.ntmps25
  try go_wp2_with (first | ((with_reducible refine gate_dst (N := 4) rfl ?_); (try refine ug_ (by rfl) ?_); refine bx_ #[.int .i64 a0_0, .int .i64 a0_1, .int .i64 a0_2, .int .u64 a0_3, .int .u64 a0_4, .int .u64 a0_5] 28 ?_; intro gb534 hg w18 BK534 hb; have GW534 := bz_ w hg; have GE534 := GW534; replace HB := bs_ w hb; clear hb hg))
  replace BK534 := Aside0.mk (blk_drew BK534.out)
  replace HB := Aside0.mk (below_drew1 HB.out)
  refine start_ (n := 22) (S := fun w' => True) (ds := []) (bl_ 22 0) (by kernel_rfl) rfl (by kernel_rfl) trivial (fun hHeld => ?_); refine with_tabW spigotlaw37_tat.tab1 spigotlaw37_tat.bits1 (fun HT_ HW_ => ?_)
  generalize w18.drew = w19 at BK534 HB hHeld ⊢
  refine pa_ 0 (some 9) (bl_ 22 1) HT_ ?_
  refine pa_ 1 (some 10) (bl_ 22 3) HT_ ?_
  refine pa_ 2 (some 11) (bl_ 22 7) HT_ ?_
  refine pz_ 3 (some 12) (bl_ 22 15) HT_ ?_
  refine pz_ 4 (some 13) (bl_ 22 31) HT_ ?_
  refine pz_ 5 (some 14) (bl_ 22 63) HT_ ?_
  refine pz_ 6 (some 15) (bl_ 22 127) HT_ ?_
  refine pa_ 7 (some 16) (bl_ 22 255) HT_ ?_
  refine pa_ 8 (some 17) (bl_ 22 511) HT_ ?_
  refine pz_ 9 (some 18) (bl_ 22 1023) HT_ ?_
  refine pz_ 10 (some 19) (bl_ 22 2047) HT_ ?_
  refine pz_ 11 (some 20) (bl_ 22 4095) HT_ ?_
  refine pz_ 12 (some 21) (bl_ 22 8191) HT_ ?_
  refine pz_ 13 (some 22) (bl_ 22 16383) HT_ ?_
  refine pa_ 14 (some 23) (bl_ 22 32767) HT_ ?_
  refine pa_ 15 (some 24) (bl_ 22 65535) HT_ ?_
  refine pz_ 16 (some 25) (bl_ 22 131071) HT_ ?_
  refine pz_ 17 (some 26) (bl_ 22 262143) HT_ ?_
  refine pz_ 18 (some 27) (bl_ 22 524287) HT_ ?_
  refine pz_ 19 (some 28) (bl_ 22 1048575) HT_ ?_
  refine pa_ 20 (some 29) (bl_ 22 2097151) HT_ ?_
  refine pa_ 21 (some 8) (bl_ 22 4194303) HT_ ?_
  refine done_ (done_of HT_.out (by kernel_rfl)) ?_
  try go_wp2
  go_ret
  exact fi_

end Go.Proofs.Ytnijohomnajngaa.X
