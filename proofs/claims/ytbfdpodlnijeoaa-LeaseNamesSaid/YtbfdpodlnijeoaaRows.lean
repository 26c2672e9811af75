/-
  No cell of these rows narrows 'for every input' (looked for: loops, veiled, ifaces, maps, wideKeys, modest, calm, conditions, laid).
  DERIVED. THE GIVEN ROWS OF THIS SEAT. 7 by the template 'for every input the law returns true; each argument reads behind the call as it read before'; 0 by the template 'total and deterministic' (their statements: YtbfdpodlnijeoaaTotals.lean).
  GIVEN WITH THE SEED: the statements are not yours to turn. If you find one false, say at which input.
  Laid BY PROGRAM, IN A SANDBOX (cutbox-rows.mjs): the forced cells as the released guide's own fill.sh prints them over the translation a27bd0ce50059ced… (all of the seat's roots in one cut). By AI agents, Wed Nov 11 2026. No macro, syntax, notation, axiom, sorry.
-/
import Derived.Test.YtbfdpodlnijeoaaChecked
import GoSem.Claim
import GoSem.ClaimJoined
import GoSem.ClaimMapViews
import Derived.JoinedTies
import Derived.KernelRfl
namespace Go.Proofs.Ytbfdpodlnijeoaa
/- THE CELL 'sum', in the pinned program and in every row, IS THE sha256 OF THE DUMP (.gsa) THAT YtbfdpodlnijeoaaProg.lean LOADS. Nothing in Lean hashes anything: it is a label: what it is worth is what the hold of that sum in a sandbox is worth. -/
noncomputable def Try.pinned : Pinned := { name := "ytbfdpodlnijeoaa", sum := "a27bd0ce50059cedeb6749ebe11dd0d249fe31c6b1d1ceb8adbb47becbb37d6c", checked := Try.checked }
namespace Rows
def none {H : Type} : Left H := { results := [], args := [] }

/-- 'spigotlaw42.LeaseMakes': WHATEVER THE INPUT: true; the input reads as it did. -/
def leaseMakesSpec : ChangeSpec := { name := "leaseMakes", fn := fun _ => fun
  | [d1, d2] => { results := [.lit (.bool true)], args := [d1, d2] }
  | _ => none }
def leaseMakesRow : OpenClaim := { program := "ytbfdpodlnijeoaa", sum := "a27bd0ce50059cedeb6749ebe11dd0d249fe31c6b1d1ceb8adbb47becbb37d6c", func := "spigot/spigotlaw42.LeaseMakes", spec := "leaseMakes", inPlace := ["math/bits.Add64"], unfollowed := true, recurses := true, named := ["math/bits.divideError", "math/bits.overflowError"], apart := false }
def LeaseMakesSaid : Prop := leaseMakesRow.holds Try.pinned (OpenSpec.ofChange leaseMakesSpec)

/-- ITS FALSE NEIGHBOUR: 'it returns false'. Refute it at one input. -/
def leaseMakesWrong : ChangeSpec := { name := "leaseMakes", fn := fun _ => fun
  | [d1, d2] => { results := [.lit (.bool false)], args := [d1, d2] }
  | _ => none }
def LeaseMakesWrongFalsely : Prop := leaseMakesRow.holds Try.pinned (OpenSpec.ofChange leaseMakesWrong)

/-- 'spigotlaw42.LeaseSwap': WHATEVER THE INPUT: true; the input reads as it did. -/
def leaseSwapSpec : ChangeSpec := { name := "leaseSwap", fn := fun _ => fun
  | [d1, d2, d3] => { results := [.lit (.bool true)], args := [d1, d2, d3] }
  | _ => none }
def leaseSwapRow : OpenClaim := { program := "ytbfdpodlnijeoaa", sum := "a27bd0ce50059cedeb6749ebe11dd0d249fe31c6b1d1ceb8adbb47becbb37d6c", func := "spigot/spigotlaw42.LeaseSwap", spec := "leaseSwap", inPlace := ["math/bits.Add64"], unfollowed := true, recurses := true, named := ["math/bits.divideError", "math/bits.overflowError"], apart := false }
def LeaseSwapSaid : Prop := leaseSwapRow.holds Try.pinned (OpenSpec.ofChange leaseSwapSpec)

/-- ITS FALSE NEIGHBOUR: 'it returns false'. Refute it at one input. -/
def leaseSwapWrong : ChangeSpec := { name := "leaseSwap", fn := fun _ => fun
  | [d1, d2, d3] => { results := [.lit (.bool false)], args := [d1, d2, d3] }
  | _ => none }
def LeaseSwapWrongFalsely : Prop := leaseSwapRow.holds Try.pinned (OpenSpec.ofChange leaseSwapWrong)

/-- 'spigotlaw42.LeaseRuns': WHATEVER THE INPUT: true; the input reads as it did. -/
def leaseRunsSpec : ChangeSpec := { name := "leaseRuns", fn := fun _ => fun
  | [d1, d2, d3] => { results := [.lit (.bool true)], args := [d1, d2, d3] }
  | _ => none }
def leaseRunsRow : OpenClaim := { program := "ytbfdpodlnijeoaa", sum := "a27bd0ce50059cedeb6749ebe11dd0d249fe31c6b1d1ceb8adbb47becbb37d6c", func := "spigot/spigotlaw42.LeaseRuns", spec := "leaseRuns", inPlace := ["math/bits.Add64"], unfollowed := true, recurses := true, named := ["math/bits.divideError", "math/bits.overflowError"], apart := false }
def LeaseRunsSaid : Prop := leaseRunsRow.holds Try.pinned (OpenSpec.ofChange leaseRunsSpec)

/-- ITS FALSE NEIGHBOUR: 'it returns false'. Refute it at one input. -/
def leaseRunsWrong : ChangeSpec := { name := "leaseRuns", fn := fun _ => fun
  | [d1, d2, d3] => { results := [.lit (.bool false)], args := [d1, d2, d3] }
  | _ => none }
def LeaseRunsWrongFalsely : Prop := leaseRunsRow.holds Try.pinned (OpenSpec.ofChange leaseRunsWrong)

/-- 'spigotlaw42.LeaseParts': WHATEVER THE INPUT: true; the input reads as it did. -/
def leasePartsSpec : ChangeSpec := { name := "leaseParts", fn := fun _ => fun
  | [d1, d2, d3] => { results := [.lit (.bool true)], args := [d1, d2, d3] }
  | _ => none }
def leasePartsRow : OpenClaim := { program := "ytbfdpodlnijeoaa", sum := "a27bd0ce50059cedeb6749ebe11dd0d249fe31c6b1d1ceb8adbb47becbb37d6c", func := "spigot/spigotlaw42.LeaseParts", spec := "leaseParts", inPlace := ["math/bits.Add64"], unfollowed := true, recurses := true, named := ["math/bits.divideError", "math/bits.overflowError"], apart := false }
def LeasePartsSaid : Prop := leasePartsRow.holds Try.pinned (OpenSpec.ofChange leasePartsSpec)

/-- ITS FALSE NEIGHBOUR: 'it returns false'. Refute it at one input. -/
def leasePartsWrong : ChangeSpec := { name := "leaseParts", fn := fun _ => fun
  | [d1, d2, d3] => { results := [.lit (.bool false)], args := [d1, d2, d3] }
  | _ => none }
def LeasePartsWrongFalsely : Prop := leasePartsRow.holds Try.pinned (OpenSpec.ofChange leasePartsWrong)

/-- 'spigotlaw42.LeaseSteps': WHATEVER THE INPUT: true; the input reads as it did. -/
def leaseStepsSpec : ChangeSpec := { name := "leaseSteps", fn := fun _ => fun
  | [d1, d2, d3] => { results := [.lit (.bool true)], args := [d1, d2, d3] }
  | _ => none }
def leaseStepsRow : OpenClaim := { program := "ytbfdpodlnijeoaa", sum := "a27bd0ce50059cedeb6749ebe11dd0d249fe31c6b1d1ceb8adbb47becbb37d6c", func := "spigot/spigotlaw42.LeaseSteps", spec := "leaseSteps", inPlace := ["math/bits.Add64"], unfollowed := true, recurses := true, named := ["math/bits.divideError", "math/bits.overflowError"], apart := false }
def LeaseStepsSaid : Prop := leaseStepsRow.holds Try.pinned (OpenSpec.ofChange leaseStepsSpec)

/-- ITS FALSE NEIGHBOUR: 'it returns false'. Refute it at one input. -/
def leaseStepsWrong : ChangeSpec := { name := "leaseSteps", fn := fun _ => fun
  | [d1, d2, d3] => { results := [.lit (.bool false)], args := [d1, d2, d3] }
  | _ => none }
def LeaseStepsWrongFalsely : Prop := leaseStepsRow.holds Try.pinned (OpenSpec.ofChange leaseStepsWrong)

/-- 'spigotlaw42.LeaseNames': WHATEVER THE INPUT: true; the input reads as it did. -/
def leaseNamesSpec : ChangeSpec := { name := "leaseNames", fn := fun _ => fun
  | [] => { results := [.lit (.bool true)], args := [] }
  | _ => none }
def leaseNamesRow : OpenClaim := { program := "ytbfdpodlnijeoaa", sum := "a27bd0ce50059cedeb6749ebe11dd0d249fe31c6b1d1ceb8adbb47becbb37d6c", func := "spigot/spigotlaw42.LeaseNames", spec := "leaseNames", inPlace := ["math/bits.Add64"], unfollowed := true, recurses := true, named := ["math/bits.divideError", "math/bits.overflowError"], apart := false }
def LeaseNamesSaid : Prop := leaseNamesRow.holds Try.pinned (OpenSpec.ofChange leaseNamesSpec)

/-- ITS FALSE NEIGHBOUR: 'it returns false'. Refute it at one input. -/
def leaseNamesWrong : ChangeSpec := { name := "leaseNames", fn := fun _ => fun
  | [] => { results := [.lit (.bool false)], args := [] }
  | _ => none }
def LeaseNamesWrongFalsely : Prop := leaseNamesRow.holds Try.pinned (OpenSpec.ofChange leaseNamesWrong)

/-- 'spigotlaw42.LeaseBound': WHATEVER THE INPUT: true; the input reads as it did. -/
def leaseBoundSpec : ChangeSpec := { name := "leaseBound", fn := fun _ => fun
  | [d1, d2, d3] => { results := [.lit (.bool true)], args := [d1, d2, d3] }
  | _ => none }
def leaseBoundRow : OpenClaim := { program := "ytbfdpodlnijeoaa", sum := "a27bd0ce50059cedeb6749ebe11dd0d249fe31c6b1d1ceb8adbb47becbb37d6c", func := "spigot/spigotlaw42.LeaseBound", spec := "leaseBound", inPlace := ["math/bits.Add64"], unfollowed := true, recurses := true, named := ["math/bits.divideError", "math/bits.overflowError"], apart := false }
def LeaseBoundSaid : Prop := leaseBoundRow.holds Try.pinned (OpenSpec.ofChange leaseBoundSpec)

/-- ITS FALSE NEIGHBOUR: 'it returns false'. Refute it at one input. -/
def leaseBoundWrong : ChangeSpec := { name := "leaseBound", fn := fun _ => fun
  | [d1, d2, d3] => { results := [.lit (.bool false)], args := [d1, d2, d3] }
  | _ => none }
def LeaseBoundWrongFalsely : Prop := leaseBoundRow.holds Try.pinned (OpenSpec.ofChange leaseBoundWrong)

/- THE SECOND FORM. 'bulk': how many values and letters a reading holds, each counted each time it is reached (what is shared counts as often as it is met; a slice's spare places count too). A statement '..UptoSaid' is the law's where the arguments, and the package variables that the reading takes, are together of bulk at most 1048576: NARROWER than '..Said'. Prove '..Said' where nothing that the law and all that it calls make is longer than what came in: it says more and counts as full. Else prove '..UptoSaid'. A law counts once. -/
mutual
def uptoBulk {H : Type} : DataW H → Nat
  | .lit (.string bytes) => bytes.length + 1
  | .lit _ => 1
  | .nil => 1
  | .ptr d => uptoBulk d + 1
  | .slice elems spare => uptoBulkAll elems + uptoBulkAll spare + 1
  | .agg parts => uptoBulkAll parts + 1
  | .iface _ d => uptoBulk d + 1
  | .map entries => uptoBulkEntries entries + 1
  | .held _ => 1
def uptoBulkAll {H : Type} : List (DataW H) → Nat
  | [] => 0
  | d :: r => uptoBulk d + uptoBulkAll r
def uptoBulkEntries {H : Type} : List (Lit × DataW H) → Nat
  | [] => 0
  | x :: r => uptoBulkEntry x + uptoBulkEntries r
def uptoBulkEntry {H : Type} : Lit × DataW H → Nat
  | (.string bytes, d) => bytes.length + uptoBulk d + 1
  | (_, d) => uptoBulk d + 1
 end
def uptoSmall : (H : Type) → List (DataW H) → Bool := fun _ ds => decide (uptoBulkAll ds ≤ 1048576)
def OpenSpec.upto (s : _root_.Go.ChangeSpec) : _root_.Go.OpenSpec := { _root_.Go.OpenSpec.ofChange s with cond := some uptoSmall }

/-- 'spigotlaw42.LeaseMakes', WHERE WHAT IT READS IS OF BULK AT MOST 1048576: true; the input reads as it did. -/
def leaseMakesUptoRow : OpenClaim := { program := "ytbfdpodlnijeoaa", sum := "a27bd0ce50059cedeb6749ebe11dd0d249fe31c6b1d1ceb8adbb47becbb37d6c", func := "spigot/spigotlaw42.LeaseMakes", spec := "leaseMakes", inPlace := ["math/bits.Add64"], unfollowed := true, recurses := true, named := ["math/bits.divideError", "math/bits.overflowError"], apart := false, narrowed := true }
def LeaseMakesUptoSaid : Prop := leaseMakesUptoRow.holds Try.pinned (OpenSpec.upto leaseMakesSpec)

/-- 'spigotlaw42.LeaseSwap', WHERE WHAT IT READS IS OF BULK AT MOST 1048576: true; the input reads as it did. -/
def leaseSwapUptoRow : OpenClaim := { program := "ytbfdpodlnijeoaa", sum := "a27bd0ce50059cedeb6749ebe11dd0d249fe31c6b1d1ceb8adbb47becbb37d6c", func := "spigot/spigotlaw42.LeaseSwap", spec := "leaseSwap", inPlace := ["math/bits.Add64"], unfollowed := true, recurses := true, named := ["math/bits.divideError", "math/bits.overflowError"], apart := false, narrowed := true }
def LeaseSwapUptoSaid : Prop := leaseSwapUptoRow.holds Try.pinned (OpenSpec.upto leaseSwapSpec)

/-- 'spigotlaw42.LeaseRuns', WHERE WHAT IT READS IS OF BULK AT MOST 1048576: true; the input reads as it did. -/
def leaseRunsUptoRow : OpenClaim := { program := "ytbfdpodlnijeoaa", sum := "a27bd0ce50059cedeb6749ebe11dd0d249fe31c6b1d1ceb8adbb47becbb37d6c", func := "spigot/spigotlaw42.LeaseRuns", spec := "leaseRuns", inPlace := ["math/bits.Add64"], unfollowed := true, recurses := true, named := ["math/bits.divideError", "math/bits.overflowError"], apart := false, narrowed := true }
def LeaseRunsUptoSaid : Prop := leaseRunsUptoRow.holds Try.pinned (OpenSpec.upto leaseRunsSpec)

/-- 'spigotlaw42.LeaseParts', WHERE WHAT IT READS IS OF BULK AT MOST 1048576: true; the input reads as it did. -/
def leasePartsUptoRow : OpenClaim := { program := "ytbfdpodlnijeoaa", sum := "a27bd0ce50059cedeb6749ebe11dd0d249fe31c6b1d1ceb8adbb47becbb37d6c", func := "spigot/spigotlaw42.LeaseParts", spec := "leaseParts", inPlace := ["math/bits.Add64"], unfollowed := true, recurses := true, named := ["math/bits.divideError", "math/bits.overflowError"], apart := false, narrowed := true }
def LeasePartsUptoSaid : Prop := leasePartsUptoRow.holds Try.pinned (OpenSpec.upto leasePartsSpec)

/-- 'spigotlaw42.LeaseSteps', WHERE WHAT IT READS IS OF BULK AT MOST 1048576: true; the input reads as it did. -/
def leaseStepsUptoRow : OpenClaim := { program := "ytbfdpodlnijeoaa", sum := "a27bd0ce50059cedeb6749ebe11dd0d249fe31c6b1d1ceb8adbb47becbb37d6c", func := "spigot/spigotlaw42.LeaseSteps", spec := "leaseSteps", inPlace := ["math/bits.Add64"], unfollowed := true, recurses := true, named := ["math/bits.divideError", "math/bits.overflowError"], apart := false, narrowed := true }
def LeaseStepsUptoSaid : Prop := leaseStepsUptoRow.holds Try.pinned (OpenSpec.upto leaseStepsSpec)

/-- 'spigotlaw42.LeaseNames', WHERE WHAT IT READS IS OF BULK AT MOST 1048576: true; the input reads as it did. -/
def leaseNamesUptoRow : OpenClaim := { program := "ytbfdpodlnijeoaa", sum := "a27bd0ce50059cedeb6749ebe11dd0d249fe31c6b1d1ceb8adbb47becbb37d6c", func := "spigot/spigotlaw42.LeaseNames", spec := "leaseNames", inPlace := ["math/bits.Add64"], unfollowed := true, recurses := true, named := ["math/bits.divideError", "math/bits.overflowError"], apart := false, narrowed := true }
def LeaseNamesUptoSaid : Prop := leaseNamesUptoRow.holds Try.pinned (OpenSpec.upto leaseNamesSpec)

/-- 'spigotlaw42.LeaseBound', WHERE WHAT IT READS IS OF BULK AT MOST 1048576: true; the input reads as it did. -/
def leaseBoundUptoRow : OpenClaim := { program := "ytbfdpodlnijeoaa", sum := "a27bd0ce50059cedeb6749ebe11dd0d249fe31c6b1d1ceb8adbb47becbb37d6c", func := "spigot/spigotlaw42.LeaseBound", spec := "leaseBound", inPlace := ["math/bits.Add64"], unfollowed := true, recurses := true, named := ["math/bits.divideError", "math/bits.overflowError"], apart := false, narrowed := true }
def LeaseBoundUptoSaid : Prop := leaseBoundUptoRow.holds Try.pinned (OpenSpec.upto leaseBoundSpec)

end Rows
end Go.Proofs.Ytbfdpodlnijeoaa
