/-
  No cell of these rows narrows 'for every input' (looked for: loops, veiled, ifaces, maps, wideKeys, modest, calm, conditions, laid).
  DERIVED. THE GIVEN ROWS OF THIS SEAT. 7 by the template 'for every input the law returns true; each argument reads behind the call as it read before'; 0 by the template 'total and deterministic' (their statements: YtfdpcnkghmmobaaTotals.lean).
  GIVEN WITH THE SEED: the statements are not yours to turn. If you find one false, say at which input.
  Laid BY PROGRAM, IN A SANDBOX (cutbox-rows.mjs): the forced cells as the released guide's own fill.sh prints them over the translation f80c76d8ac875266… (all of the seat's roots in one cut). By AI agents, Wed Nov 11 2026. No macro, syntax, notation, axiom, sorry.
-/
import Derived.Test.YtfdpcnkghmmobaaChecked
import GoSem.Claim
import GoSem.ClaimJoined
import GoSem.ClaimMapViews
import Derived.JoinedTies
import Derived.KernelRfl
namespace Go.Proofs.Ytfdpcnkghmmobaa
/- THE CELL 'sum', in the pinned program and in every row, IS THE sha256 OF THE DUMP (.gsa) THAT YtfdpcnkghmmobaaProg.lean LOADS. Nothing in Lean hashes anything: it is a label: what it is worth is what the hold of that sum in a sandbox is worth. -/
noncomputable def Try.pinned : Pinned := { name := "ytfdpcnkghmmobaa", sum := "f80c76d8ac8752669d45b17912d19102bc10f256f1d64fa9bd96a8ecd7056d5f", checked := Try.checked }
namespace Rows
def none {H : Type} : Left H := { results := [], args := [] }

/-- 'spigotlaw39.WaitFits': WHATEVER THE INPUT: true; the input reads as it did. -/
def waitFitsSpec : ChangeSpec := { name := "waitFits", fn := fun _ => fun
  | [d1, d2, d3, d4] => { results := [.lit (.bool true)], args := [d1, d2, d3, d4] }
  | _ => none }
def waitFitsRow : OpenClaim := { program := "ytfdpcnkghmmobaa", sum := "f80c76d8ac8752669d45b17912d19102bc10f256f1d64fa9bd96a8ecd7056d5f", func := "spigot/spigotlaw39.WaitFits", spec := "waitFits", inPlace := ["math/bits.Add64"], unfollowed := true, recurses := true, named := ["math/bits.divideError", "math/bits.overflowError"], apart := false }
def WaitFitsSaid : Prop := waitFitsRow.holds Try.pinned (OpenSpec.ofChange waitFitsSpec)

/-- ITS FALSE NEIGHBOUR: 'it returns false'. Refute it at one input. -/
def waitFitsWrong : ChangeSpec := { name := "waitFits", fn := fun _ => fun
  | [d1, d2, d3, d4] => { results := [.lit (.bool false)], args := [d1, d2, d3, d4] }
  | _ => none }
def WaitFitsWrongFalsely : Prop := waitFitsRow.holds Try.pinned (OpenSpec.ofChange waitFitsWrong)

/-- 'spigotlaw39.WaitLater': WHATEVER THE INPUT: true; the input reads as it did. -/
def waitLaterSpec : ChangeSpec := { name := "waitLater", fn := fun _ => fun
  | [d1, d2, d3, d4, d5] => { results := [.lit (.bool true)], args := [d1, d2, d3, d4, d5] }
  | _ => none }
def waitLaterRow : OpenClaim := { program := "ytfdpcnkghmmobaa", sum := "f80c76d8ac8752669d45b17912d19102bc10f256f1d64fa9bd96a8ecd7056d5f", func := "spigot/spigotlaw39.WaitLater", spec := "waitLater", inPlace := ["math/bits.Add64", "math/bits.Sub64"], unfollowed := true, recurses := true, named := ["math/bits.divideError", "math/bits.overflowError"], apart := false }
def WaitLaterSaid : Prop := waitLaterRow.holds Try.pinned (OpenSpec.ofChange waitLaterSpec)

/-- ITS FALSE NEIGHBOUR: 'it returns false'. Refute it at one input. -/
def waitLaterWrong : ChangeSpec := { name := "waitLater", fn := fun _ => fun
  | [d1, d2, d3, d4, d5] => { results := [.lit (.bool false)], args := [d1, d2, d3, d4, d5] }
  | _ => none }
def WaitLaterWrongFalsely : Prop := waitLaterRow.holds Try.pinned (OpenSpec.ofChange waitLaterWrong)

/-- 'spigotlaw39.WaitPlans': WHATEVER THE INPUT: true; the input reads as it did. -/
def waitPlansSpec : ChangeSpec := { name := "waitPlans", fn := fun _ => fun
  | [d1, d2, d3, d4] => { results := [.lit (.bool true)], args := [d1, d2, d3, d4] }
  | _ => none }
def waitPlansRow : OpenClaim := { program := "ytfdpcnkghmmobaa", sum := "f80c76d8ac8752669d45b17912d19102bc10f256f1d64fa9bd96a8ecd7056d5f", func := "spigot/spigotlaw39.WaitPlans", spec := "waitPlans", inPlace := ["math/bits.Add64", "math/bits.Sub64"], unfollowed := true, recurses := true, named := ["math/bits.divideError", "math/bits.overflowError"], apart := false }
def WaitPlansSaid : Prop := waitPlansRow.holds Try.pinned (OpenSpec.ofChange waitPlansSpec)

/-- ITS FALSE NEIGHBOUR: 'it returns false'. Refute it at one input. -/
def waitPlansWrong : ChangeSpec := { name := "waitPlans", fn := fun _ => fun
  | [d1, d2, d3, d4] => { results := [.lit (.bool false)], args := [d1, d2, d3, d4] }
  | _ => none }
def WaitPlansWrongFalsely : Prop := waitPlansRow.holds Try.pinned (OpenSpec.ofChange waitPlansWrong)

/-- 'spigotlaw39.WaitParts': WHATEVER THE INPUT: true; the input reads as it did. -/
def waitPartsSpec : ChangeSpec := { name := "waitParts", fn := fun _ => fun
  | [d1, d2, d3, d4] => { results := [.lit (.bool true)], args := [d1, d2, d3, d4] }
  | _ => none }
def waitPartsRow : OpenClaim := { program := "ytfdpcnkghmmobaa", sum := "f80c76d8ac8752669d45b17912d19102bc10f256f1d64fa9bd96a8ecd7056d5f", func := "spigot/spigotlaw39.WaitParts", spec := "waitParts", inPlace := ["math/bits.Add64", "math/bits.Sub64"], unfollowed := true, recurses := true, named := ["math/bits.divideError", "math/bits.overflowError"], apart := false }
def WaitPartsSaid : Prop := waitPartsRow.holds Try.pinned (OpenSpec.ofChange waitPartsSpec)

/-- ITS FALSE NEIGHBOUR: 'it returns false'. Refute it at one input. -/
def waitPartsWrong : ChangeSpec := { name := "waitParts", fn := fun _ => fun
  | [d1, d2, d3, d4] => { results := [.lit (.bool false)], args := [d1, d2, d3, d4] }
  | _ => none }
def WaitPartsWrongFalsely : Prop := waitPartsRow.holds Try.pinned (OpenSpec.ofChange waitPartsWrong)

/-- 'spigotlaw39.WaitFirst': WHATEVER THE INPUT: true; the input reads as it did. -/
def waitFirstSpec : ChangeSpec := { name := "waitFirst", fn := fun _ => fun
  | [d1, d2, d3] => { results := [.lit (.bool true)], args := [d1, d2, d3] }
  | _ => none }
def waitFirstRow : OpenClaim := { program := "ytfdpcnkghmmobaa", sum := "f80c76d8ac8752669d45b17912d19102bc10f256f1d64fa9bd96a8ecd7056d5f", func := "spigot/spigotlaw39.WaitFirst", spec := "waitFirst", inPlace := ["math/bits.Add64", "math/bits.Sub64"], unfollowed := true, recurses := true, named := ["math/bits.divideError", "math/bits.overflowError"], apart := false }
def WaitFirstSaid : Prop := waitFirstRow.holds Try.pinned (OpenSpec.ofChange waitFirstSpec)

/-- ITS FALSE NEIGHBOUR: 'it returns false'. Refute it at one input. -/
def waitFirstWrong : ChangeSpec := { name := "waitFirst", fn := fun _ => fun
  | [d1, d2, d3] => { results := [.lit (.bool false)], args := [d1, d2, d3] }
  | _ => none }
def WaitFirstWrongFalsely : Prop := waitFirstRow.holds Try.pinned (OpenSpec.ofChange waitFirstWrong)

/-- 'spigotlaw39.WaitEarliest': WHATEVER THE INPUT: true; the input reads as it did. -/
def waitEarliestSpec : ChangeSpec := { name := "waitEarliest", fn := fun _ => fun
  | [d1, d2, d3, d4] => { results := [.lit (.bool true)], args := [d1, d2, d3, d4] }
  | _ => none }
def waitEarliestRow : OpenClaim := { program := "ytfdpcnkghmmobaa", sum := "f80c76d8ac8752669d45b17912d19102bc10f256f1d64fa9bd96a8ecd7056d5f", func := "spigot/spigotlaw39.WaitEarliest", spec := "waitEarliest", inPlace := ["math/bits.Add64", "math/bits.Sub64"], unfollowed := true, recurses := true, named := ["math/bits.divideError", "math/bits.overflowError"], apart := false }
def WaitEarliestSaid : Prop := waitEarliestRow.holds Try.pinned (OpenSpec.ofChange waitEarliestSpec)

/-- ITS FALSE NEIGHBOUR: 'it returns false'. Refute it at one input. -/
def waitEarliestWrong : ChangeSpec := { name := "waitEarliest", fn := fun _ => fun
  | [d1, d2, d3, d4] => { results := [.lit (.bool false)], args := [d1, d2, d3, d4] }
  | _ => none }
def WaitEarliestWrongFalsely : Prop := waitEarliestRow.holds Try.pinned (OpenSpec.ofChange waitEarliestWrong)

/-- 'spigotlaw39.WaitNames': WHATEVER THE INPUT: true; the input reads as it did. -/
def waitNamesSpec : ChangeSpec := { name := "waitNames", fn := fun _ => fun
  | [] => { results := [.lit (.bool true)], args := [] }
  | _ => none }
def waitNamesRow : OpenClaim := { program := "ytfdpcnkghmmobaa", sum := "f80c76d8ac8752669d45b17912d19102bc10f256f1d64fa9bd96a8ecd7056d5f", func := "spigot/spigotlaw39.WaitNames", spec := "waitNames", inPlace := ["math/bits.Add64", "math/bits.Sub64"], unfollowed := true, recurses := true, named := ["math/bits.divideError", "math/bits.overflowError"], apart := false }
def WaitNamesSaid : Prop := waitNamesRow.holds Try.pinned (OpenSpec.ofChange waitNamesSpec)

/-- ITS FALSE NEIGHBOUR: 'it returns false'. Refute it at one input. -/
def waitNamesWrong : ChangeSpec := { name := "waitNames", fn := fun _ => fun
  | [] => { results := [.lit (.bool false)], args := [] }
  | _ => none }
def WaitNamesWrongFalsely : Prop := waitNamesRow.holds Try.pinned (OpenSpec.ofChange waitNamesWrong)

/- THE SECOND FORM. 'bulk': how many values and letters a reading holds, each counted each time it is reached (what is shared counts as often as it is met; a slice's spare places count too). A statement '..UptoSaid' is the law's where the arguments, and the package variables that the reading takes, are together of bulk at most 1048576: NARROWER than '..Said'. Prove '..Said' where nothing that the law and all that it calls make is longer than what came in: it says more and counts as full. Else prove '..UptoSaid'. A law counts once. -/
mutual
def uptoBulk {H : Type} : DataW H → Nat
  | .lit (.string bytes) => bytes.length + 1
  | .lit _ => 1
  | .nil => 1
  | .ptr d => uptoBulk d + 1
  | .slice elems spare => uptoBulkAll elems + uptoBulkAll spare + 1
  | .agg parts => uptoBulkAll parts + 1
  | .iface _ d => uptoBulk d + 1
  | .map entries => uptoBulkEntries entries + 1
  | .held _ => 1
def uptoBulkAll {H : Type} : List (DataW H) → Nat
  | [] => 0
  | d :: r => uptoBulk d + uptoBulkAll r
def uptoBulkEntries {H : Type} : List (Lit × DataW H) → Nat
  | [] => 0
  | x :: r => uptoBulkEntry x + uptoBulkEntries r
def uptoBulkEntry {H : Type} : Lit × DataW H → Nat
  | (.string bytes, d) => bytes.length + uptoBulk d + 1
  | (_, d) => uptoBulk d + 1
 end
def uptoSmall : (H : Type) → List (DataW H) → Bool := fun _ ds => decide (uptoBulkAll ds ≤ 1048576)
def OpenSpec.upto (s : _root_.Go.ChangeSpec) : _root_.Go.OpenSpec := { _root_.Go.OpenSpec.ofChange s with cond := some uptoSmall }

/-- 'spigotlaw39.WaitFits', WHERE WHAT IT READS IS OF BULK AT MOST 1048576: true; the input reads as it did. -/
def waitFitsUptoRow : OpenClaim := { program := "ytfdpcnkghmmobaa", sum := "f80c76d8ac8752669d45b17912d19102bc10f256f1d64fa9bd96a8ecd7056d5f", func := "spigot/spigotlaw39.WaitFits", spec := "waitFits", inPlace := ["math/bits.Add64"], unfollowed := true, recurses := true, named := ["math/bits.divideError", "math/bits.overflowError"], apart := false, narrowed := true }
def WaitFitsUptoSaid : Prop := waitFitsUptoRow.holds Try.pinned (OpenSpec.upto waitFitsSpec)

/-- 'spigotlaw39.WaitLater', WHERE WHAT IT READS IS OF BULK AT MOST 1048576: true; the input reads as it did. -/
def waitLaterUptoRow : OpenClaim := { program := "ytfdpcnkghmmobaa", sum := "f80c76d8ac8752669d45b17912d19102bc10f256f1d64fa9bd96a8ecd7056d5f", func := "spigot/spigotlaw39.WaitLater", spec := "waitLater", inPlace := ["math/bits.Add64", "math/bits.Sub64"], unfollowed := true, recurses := true, named := ["math/bits.divideError", "math/bits.overflowError"], apart := false, narrowed := true }
def WaitLaterUptoSaid : Prop := waitLaterUptoRow.holds Try.pinned (OpenSpec.upto waitLaterSpec)

/-- 'spigotlaw39.WaitPlans', WHERE WHAT IT READS IS OF BULK AT MOST 1048576: true; the input reads as it did. -/
def waitPlansUptoRow : OpenClaim := { program := "ytfdpcnkghmmobaa", sum := "f80c76d8ac8752669d45b17912d19102bc10f256f1d64fa9bd96a8ecd7056d5f", func := "spigot/spigotlaw39.WaitPlans", spec := "waitPlans", inPlace := ["math/bits.Add64", "math/bits.Sub64"], unfollowed := true, recurses := true, named := ["math/bits.divideError", "math/bits.overflowError"], apart := false, narrowed := true }
def WaitPlansUptoSaid : Prop := waitPlansUptoRow.holds Try.pinned (OpenSpec.upto waitPlansSpec)

/-- 'spigotlaw39.WaitParts', WHERE WHAT IT READS IS OF BULK AT MOST 1048576: true; the input reads as it did. -/
def waitPartsUptoRow : OpenClaim := { program := "ytfdpcnkghmmobaa", sum := "f80c76d8ac8752669d45b17912d19102bc10f256f1d64fa9bd96a8ecd7056d5f", func := "spigot/spigotlaw39.WaitParts", spec := "waitParts", inPlace := ["math/bits.Add64", "math/bits.Sub64"], unfollowed := true, recurses := true, named := ["math/bits.divideError", "math/bits.overflowError"], apart := false, narrowed := true }
def WaitPartsUptoSaid : Prop := waitPartsUptoRow.holds Try.pinned (OpenSpec.upto waitPartsSpec)

/-- 'spigotlaw39.WaitFirst', WHERE WHAT IT READS IS OF BULK AT MOST 1048576: true; the input reads as it did. -/
def waitFirstUptoRow : OpenClaim := { program := "ytfdpcnkghmmobaa", sum := "f80c76d8ac8752669d45b17912d19102bc10f256f1d64fa9bd96a8ecd7056d5f", func := "spigot/spigotlaw39.WaitFirst", spec := "waitFirst", inPlace := ["math/bits.Add64", "math/bits.Sub64"], unfollowed := true, recurses := true, named := ["math/bits.divideError", "math/bits.overflowError"], apart := false, narrowed := true }
def WaitFirstUptoSaid : Prop := waitFirstUptoRow.holds Try.pinned (OpenSpec.upto waitFirstSpec)

/-- 'spigotlaw39.WaitEarliest', WHERE WHAT IT READS IS OF BULK AT MOST 1048576: true; the input reads as it did. -/
def waitEarliestUptoRow : OpenClaim := { program := "ytfdpcnkghmmobaa", sum := "f80c76d8ac8752669d45b17912d19102bc10f256f1d64fa9bd96a8ecd7056d5f", func := "spigot/spigotlaw39.WaitEarliest", spec := "waitEarliest", inPlace := ["math/bits.Add64", "math/bits.Sub64"], unfollowed := true, recurses := true, named := ["math/bits.divideError", "math/bits.overflowError"], apart := false, narrowed := true }
def WaitEarliestUptoSaid : Prop := waitEarliestUptoRow.holds Try.pinned (OpenSpec.upto waitEarliestSpec)

/-- 'spigotlaw39.WaitNames', WHERE WHAT IT READS IS OF BULK AT MOST 1048576: true; the input reads as it did. -/
def waitNamesUptoRow : OpenClaim := { program := "ytfdpcnkghmmobaa", sum := "f80c76d8ac8752669d45b17912d19102bc10f256f1d64fa9bd96a8ecd7056d5f", func := "spigot/spigotlaw39.WaitNames", spec := "waitNames", inPlace := ["math/bits.Add64", "math/bits.Sub64"], unfollowed := true, recurses := true, named := ["math/bits.divideError", "math/bits.overflowError"], apart := false, narrowed := true }
def WaitNamesUptoSaid : Prop := waitNamesUptoRow.holds Try.pinned (OpenSpec.upto waitNamesSpec)

end Rows
end Go.Proofs.Ytfdpcnkghmmobaa
