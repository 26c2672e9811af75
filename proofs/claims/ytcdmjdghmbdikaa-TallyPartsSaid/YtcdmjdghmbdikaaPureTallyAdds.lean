/- TallyAdds over whole numbers. -/
import Derived.Test.YtcdmjdghmbdikaaX0
import Derived.Test.YtcdmjdghmbdikaaX3
import Derived.Test.YtcdmjdghmbdikaaX11
import Derived.Test.YtcdmjdghmbdikaaX15
import Derived.Test.YtcdmjdghmbdikaaTally
namespace Go.Proofs.Ytcdmjdghmbdikaa.X
open Go.RowKit Go.Proofs.YtcdmjdghmbdikaaW.PrintWords Go.Proofs.YtcdmjdghmbdikaaW.PrintLast Go.Proofs.YtcdmjdghmbdikaaW.PrintMore
set_option linter.unusedVariables false
set_option linter.unusedSimpArgs false

set_option maxRecDepth 100000 in
theorem alive21 : spigotlaw21_alive.f 500 = some true := by kernel_rfl
theorem TallyAdds_pure (a0 a1 a2 b0 b1 b2 c0 c1 c2 : Int) (ha0 : U64 a0) (ha1 : U64 a1) (ha2 : U64 a2) (hb0 : U64 b0) (hb1 : U64 b1) (hb2 : U64 b2) (hc0 : U64 c0) (hc1 : U64 c1) (hc2 : U64 c2) : ∃ k, spigotlaw21_TallyAdds.f k a0 a1 a2 b0 b1 b2 c0 c1 c2 = some true := by
  refine ⟨500, ?_⟩
  unfold spigotlaw21_TallyAdds.f
  have hs0 : ∀ k, tally_Sum.f (k + 4) [⟨a0, a1, a2⟩, ⟨b0, b1, b2⟩, ⟨c0, c1, c2⟩] = some (sat (sat a0 b0) c0, sat (sat a1 b1) c1, sat (sat a2 b2) c2, 0) := by
    have w1 : wrap64 (0 + 1) = 1 := by unfold wrap64; omega
    have w2 : wrap64 (1 + 1) = 2 := by unfold wrap64; omega
    have w3 : wrap64 (2 + 1) = 3 := by unfold wrap64; omega
    have z : ∀ x : Int, U64 x → sat 0 x = x := fun x hx => by rw [sat_comm, sat_zero hx]
    have e0 : ∀ x y w : S25, rd_T25 [x, y, w] 0 = x := fun _ _ _ => rfl
    have e1 : ∀ x y w : S25, rd_T25 [x, y, w] 1 = y := fun _ _ _ => rfl
    have e2 : ∀ x y w : S25, rd_T25 [x, y, w] 2 = w := fun _ _ _ => rfl
    intro k
    unfold tally_Sum.f
    simp only [List.length_cons, List.length_nil]
    rw [if_neg (by decide)]
    simp only [tally_Sum.l0, List.length_cons, List.length_nil, w1, w2, w3, e0, e1, e2]
    rw [if_pos (by decide), if_pos (by decide), if_pos (by decide), tally_Add_ok U64_zero' U64_zero' U64_zero' ha0 ha1 ha2, z a0 ha0, z a1 ha1, z a2 ha2]
    simp only [Option.bind_some]
    rw [if_pos (by decide), if_pos (by decide), if_pos (by decide), tally_Add_ok ha0 ha1 ha2 hb0 hb1 hb2]
    simp only [Option.bind_some]
    rw [if_pos (by decide), if_pos (by decide), if_pos (by decide), tally_Add_ok (sat_U64 ha0 hb0) (sat_U64 ha1 hb1) (sat_U64 ha2 hb2) hc0 hc1 hc2]
    simp only [Option.bind_some]
    rw [if_neg (by decide)]
  have hs : tally_Sum.f 500 [⟨a0, a1, a2⟩, ⟨b0, b1, b2⟩, ⟨c0, c1, c2⟩] = some (sat (sat a0 b0) c0, sat (sat a1 b1) c1, sat (sat a2 b2) c2, 0) := hs0 496
  rw [alive21, hs, tally_Add_ok ha0 ha1 ha2 hb0 hb1 hb2, tally_Add_ok hb0 hb1 hb2 hc0 hc1 hc2, tally_Add_ok hb0 hb1 hb2 ha0 ha1 ha2, tally_Add_ok ha0 ha1 ha2 U64_zero' U64_zero' U64_zero']
  simp only [Option.bind_some, ↓reduceIte]
  rw [tally_Add_ok (sat_U64 ha0 hb0) (sat_U64 ha1 hb1) (sat_U64 ha2 hb2) hc0 hc1 hc2, tally_Add_ok ha0 ha1 ha2 (sat_U64 hb0 hc0) (sat_U64 hb1 hc1) (sat_U64 hb2 hc2)]
  simp only [Option.bind_some]
  rw [if_pos (by simp [sat_comm b0 a0, sat_comm b1 a1, sat_comm b2 a2]), if_pos (by simp [sat_assoc ha0 hb0 hc0, sat_assoc ha1 hb1 hc1, sat_assoc ha2 hb2 hc2]), if_pos (by simp)]
  simp [sat_zero ha0, sat_zero ha1, sat_zero ha2]
end Go.Proofs.Ytcdmjdghmbdikaa.X
