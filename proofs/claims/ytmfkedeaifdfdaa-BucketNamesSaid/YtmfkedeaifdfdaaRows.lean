/-
  No cell of these rows narrows 'for every input' (looked for: loops, veiled, ifaces, maps, wideKeys, modest, calm, conditions, laid).
  DERIVED. THE GIVEN ROWS OF THIS SEAT. 7 by the template 'for every input the law returns true; each argument reads behind the call as it read before'; 0 by the template 'total and deterministic' (their statements: YtmfkedeaifdfdaaTotals.lean).
  GIVEN WITH THE SEED: the statements are not yours to turn. If you find one false, say at which input.
  Laid BY PROGRAM, IN A SANDBOX (cutbox-rows.mjs): the forced cells as the released guide's own fill.sh prints them over the translation 5623d545e07a0258… (all of the seat's roots in one cut). By AI agents, Wed Nov 11 2026. No macro, syntax, notation, axiom, sorry.
-/
import Derived.Test.YtmfkedeaifdfdaaChecked
import GoSem.Claim
import GoSem.ClaimJoined
import GoSem.ClaimMapViews
import Derived.JoinedTies
import Derived.KernelRfl
namespace Go.Proofs.Ytmfkedeaifdfdaa
/- THE CELL 'sum', in the pinned program and in every row, IS THE sha256 OF THE DUMP (.gsa) THAT YtmfkedeaifdfdaaProg.lean LOADS. Nothing in Lean hashes anything: it is a label: what it is worth is what the hold of that sum in a sandbox is worth. -/
noncomputable def Try.pinned : Pinned := { name := "ytmfkedeaifdfdaa", sum := "5623d545e07a0258187dfb0f00dd04e2fffa3b181a1fe1c67336338e767263a1", checked := Try.checked }
namespace Rows
def none {H : Type} : Left H := { results := [], args := [] }

/-- 'spigotlaw03.BucketFills': WHATEVER THE INPUT: true; the input reads as it did. -/
def bucketFillsSpec : ChangeSpec := { name := "bucketFills", fn := fun _ => fun
  | [d1, d2, d3] => { results := [.lit (.bool true)], args := [d1, d2, d3] }
  | _ => none }
def bucketFillsRow : OpenClaim := { program := "ytmfkedeaifdfdaa", sum := "5623d545e07a0258187dfb0f00dd04e2fffa3b181a1fe1c67336338e767263a1", func := "spigot/spigotlaw03.BucketFills", spec := "bucketFills", inPlace := ["math/bits.Add64"], named := ["math/bits.divideError", "math/bits.overflowError"], apart := false }
def BucketFillsSaid : Prop := bucketFillsRow.holds Try.pinned (OpenSpec.ofChange bucketFillsSpec)

/-- ITS FALSE NEIGHBOUR: 'it returns false'. Refute it at one input. -/
def bucketFillsWrong : ChangeSpec := { name := "bucketFills", fn := fun _ => fun
  | [d1, d2, d3] => { results := [.lit (.bool false)], args := [d1, d2, d3] }
  | _ => none }
def BucketFillsWrongFalsely : Prop := bucketFillsRow.holds Try.pinned (OpenSpec.ofChange bucketFillsWrong)

/-- 'spigotlaw03.BucketCharges': WHATEVER THE INPUT: true; the input reads as it did. -/
def bucketChargesSpec : ChangeSpec := { name := "bucketCharges", fn := fun _ => fun
  | [d1, d2, d3, d4] => { results := [.lit (.bool true)], args := [d1, d2, d3, d4] }
  | _ => none }
def bucketChargesRow : OpenClaim := { program := "ytmfkedeaifdfdaa", sum := "5623d545e07a0258187dfb0f00dd04e2fffa3b181a1fe1c67336338e767263a1", func := "spigot/spigotlaw03.BucketCharges", spec := "bucketCharges", inPlace := ["math/bits.Sub64", "math/bits.Add64"], named := ["math/bits.divideError", "math/bits.overflowError"], apart := false }
def BucketChargesSaid : Prop := bucketChargesRow.holds Try.pinned (OpenSpec.ofChange bucketChargesSpec)

/-- ITS FALSE NEIGHBOUR: 'it returns false'. Refute it at one input. -/
def bucketChargesWrong : ChangeSpec := { name := "bucketCharges", fn := fun _ => fun
  | [d1, d2, d3, d4] => { results := [.lit (.bool false)], args := [d1, d2, d3, d4] }
  | _ => none }
def BucketChargesWrongFalsely : Prop := bucketChargesRow.holds Try.pinned (OpenSpec.ofChange bucketChargesWrong)

/-- 'spigotlaw03.BucketNames': WHATEVER THE INPUT: true; the input reads as it did. -/
def bucketNamesSpec : ChangeSpec := { name := "bucketNames", fn := fun _ => fun
  | [] => { results := [.lit (.bool true)], args := [] }
  | _ => none }
def bucketNamesRow : OpenClaim := { program := "ytmfkedeaifdfdaa", sum := "5623d545e07a0258187dfb0f00dd04e2fffa3b181a1fe1c67336338e767263a1", func := "spigot/spigotlaw03.BucketNames", spec := "bucketNames", inPlace := ["math/bits.Add64", "math/bits.Sub64"], named := ["math/bits.divideError", "math/bits.overflowError"], apart := false }
def BucketNamesSaid : Prop := bucketNamesRow.holds Try.pinned (OpenSpec.ofChange bucketNamesSpec)

/-- ITS FALSE NEIGHBOUR: 'it returns false'. Refute it at one input. -/
def bucketNamesWrong : ChangeSpec := { name := "bucketNames", fn := fun _ => fun
  | [] => { results := [.lit (.bool false)], args := [] }
  | _ => none }
def BucketNamesWrongFalsely : Prop := bucketNamesRow.holds Try.pinned (OpenSpec.ofChange bucketNamesWrong)

/-- 'spigotlaw03.BucketWaits': WHATEVER THE INPUT: true; the input reads as it did. -/
def bucketWaitsSpec : ChangeSpec := { name := "bucketWaits", fn := fun _ => fun
  | [d1, d2] => { results := [.lit (.bool true)], args := [d1, d2] }
  | _ => none }
def bucketWaitsRow : OpenClaim := { program := "ytmfkedeaifdfdaa", sum := "5623d545e07a0258187dfb0f00dd04e2fffa3b181a1fe1c67336338e767263a1", func := "spigot/spigotlaw03.BucketWaits", spec := "bucketWaits", inPlace := ["math/bits.Add64", "math/bits.Sub64"], named := ["math/bits.divideError", "math/bits.overflowError"], apart := false }
def BucketWaitsSaid : Prop := bucketWaitsRow.holds Try.pinned (OpenSpec.ofChange bucketWaitsSpec)

/-- ITS FALSE NEIGHBOUR: 'it returns false'. Refute it at one input. -/
def bucketWaitsWrong : ChangeSpec := { name := "bucketWaits", fn := fun _ => fun
  | [d1, d2] => { results := [.lit (.bool false)], args := [d1, d2] }
  | _ => none }
def BucketWaitsWrongFalsely : Prop := bucketWaitsRow.holds Try.pinned (OpenSpec.ofChange bucketWaitsWrong)

/-- 'spigotlaw03.BucketMore': WHATEVER THE INPUT: true; the input reads as it did. -/
def bucketMoreSpec : ChangeSpec := { name := "bucketMore", fn := fun _ => fun
  | [d1, d2, d3, d4] => { results := [.lit (.bool true)], args := [d1, d2, d3, d4] }
  | _ => none }
def bucketMoreRow : OpenClaim := { program := "ytmfkedeaifdfdaa", sum := "5623d545e07a0258187dfb0f00dd04e2fffa3b181a1fe1c67336338e767263a1", func := "spigot/spigotlaw03.BucketMore", spec := "bucketMore", inPlace := ["math/bits.Add64", "math/bits.Sub64"], named := ["math/bits.divideError", "math/bits.overflowError"], apart := false }
def BucketMoreSaid : Prop := bucketMoreRow.holds Try.pinned (OpenSpec.ofChange bucketMoreSpec)

/-- ITS FALSE NEIGHBOUR: 'it returns false'. Refute it at one input. -/
def bucketMoreWrong : ChangeSpec := { name := "bucketMore", fn := fun _ => fun
  | [d1, d2, d3, d4] => { results := [.lit (.bool false)], args := [d1, d2, d3, d4] }
  | _ => none }
def BucketMoreWrongFalsely : Prop := bucketMoreRow.holds Try.pinned (OpenSpec.ofChange bucketMoreWrong)

/-- 'spigotlaw03.BucketTwo': WHATEVER THE INPUT: true; the input reads as it did. -/
def bucketTwoSpec : ChangeSpec := { name := "bucketTwo", fn := fun _ => fun
  | [d1, d2, d3] => { results := [.lit (.bool true)], args := [d1, d2, d3] }
  | _ => none }
def bucketTwoRow : OpenClaim := { program := "ytmfkedeaifdfdaa", sum := "5623d545e07a0258187dfb0f00dd04e2fffa3b181a1fe1c67336338e767263a1", func := "spigot/spigotlaw03.BucketTwo", spec := "bucketTwo", inPlace := ["math/bits.Add64", "math/bits.Sub64"], named := ["math/bits.divideError", "math/bits.overflowError"], apart := false }
def BucketTwoSaid : Prop := bucketTwoRow.holds Try.pinned (OpenSpec.ofChange bucketTwoSpec)

/-- ITS FALSE NEIGHBOUR: 'it returns false'. Refute it at one input. -/
def bucketTwoWrong : ChangeSpec := { name := "bucketTwo", fn := fun _ => fun
  | [d1, d2, d3] => { results := [.lit (.bool false)], args := [d1, d2, d3] }
  | _ => none }
def BucketTwoWrongFalsely : Prop := bucketTwoRow.holds Try.pinned (OpenSpec.ofChange bucketTwoWrong)

/-- 'spigotlaw03.BucketBound': WHATEVER THE INPUT: true; the input reads as it did. -/
def bucketBoundSpec : ChangeSpec := { name := "bucketBound", fn := fun _ => fun
  | [d1, d2, d3, d4] => { results := [.lit (.bool true)], args := [d1, d2, d3, d4] }
  | _ => none }
def bucketBoundRow : OpenClaim := { program := "ytmfkedeaifdfdaa", sum := "5623d545e07a0258187dfb0f00dd04e2fffa3b181a1fe1c67336338e767263a1", func := "spigot/spigotlaw03.BucketBound", spec := "bucketBound", inPlace := ["math/bits.Add64", "math/bits.Sub64"], named := ["math/bits.divideError", "math/bits.overflowError"], apart := false }
def BucketBoundSaid : Prop := bucketBoundRow.holds Try.pinned (OpenSpec.ofChange bucketBoundSpec)

/-- ITS FALSE NEIGHBOUR: 'it returns false'. Refute it at one input. -/
def bucketBoundWrong : ChangeSpec := { name := "bucketBound", fn := fun _ => fun
  | [d1, d2, d3, d4] => { results := [.lit (.bool false)], args := [d1, d2, d3, d4] }
  | _ => none }
def BucketBoundWrongFalsely : Prop := bucketBoundRow.holds Try.pinned (OpenSpec.ofChange bucketBoundWrong)

/- THE SECOND FORM. 'bulk': how many values and letters a reading holds, each counted each time it is reached (what is shared counts as often as it is met; a slice's spare places count too). A statement '..UptoSaid' is the law's where the arguments, and the package variables that the reading takes, are together of bulk at most 1048576: NARROWER than '..Said'. Prove '..Said' where nothing that the law and all that it calls make is longer than what came in: it says more and counts as full. Else prove '..UptoSaid'. A law counts once. -/
mutual
def uptoBulk {H : Type} : DataW H → Nat
  | .lit (.string bytes) => bytes.length + 1
  | .lit _ => 1
  | .nil => 1
  | .ptr d => uptoBulk d + 1
  | .slice elems spare => uptoBulkAll elems + uptoBulkAll spare + 1
  | .agg parts => uptoBulkAll parts + 1
  | .iface _ d => uptoBulk d + 1
  | .map entries => uptoBulkEntries entries + 1
  | .held _ => 1
def uptoBulkAll {H : Type} : List (DataW H) → Nat
  | [] => 0
  | d :: r => uptoBulk d + uptoBulkAll r
def uptoBulkEntries {H : Type} : List (Lit × DataW H) → Nat
  | [] => 0
  | x :: r => uptoBulkEntry x + uptoBulkEntries r
def uptoBulkEntry {H : Type} : Lit × DataW H → Nat
  | (.string bytes, d) => bytes.length + uptoBulk d + 1
  | (_, d) => uptoBulk d + 1
 end
def uptoSmall : (H : Type) → List (DataW H) → Bool := fun _ ds => decide (uptoBulkAll ds ≤ 1048576)
def OpenSpec.upto (s : _root_.Go.ChangeSpec) : _root_.Go.OpenSpec := { _root_.Go.OpenSpec.ofChange s with cond := some uptoSmall }

/-- 'spigotlaw03.BucketFills', WHERE WHAT IT READS IS OF BULK AT MOST 1048576: true; the input reads as it did. -/
def bucketFillsUptoRow : OpenClaim := { program := "ytmfkedeaifdfdaa", sum := "5623d545e07a0258187dfb0f00dd04e2fffa3b181a1fe1c67336338e767263a1", func := "spigot/spigotlaw03.BucketFills", spec := "bucketFills", inPlace := ["math/bits.Add64"], named := ["math/bits.divideError", "math/bits.overflowError"], apart := false, narrowed := true }
def BucketFillsUptoSaid : Prop := bucketFillsUptoRow.holds Try.pinned (OpenSpec.upto bucketFillsSpec)

/-- 'spigotlaw03.BucketCharges', WHERE WHAT IT READS IS OF BULK AT MOST 1048576: true; the input reads as it did. -/
def bucketChargesUptoRow : OpenClaim := { program := "ytmfkedeaifdfdaa", sum := "5623d545e07a0258187dfb0f00dd04e2fffa3b181a1fe1c67336338e767263a1", func := "spigot/spigotlaw03.BucketCharges", spec := "bucketCharges", inPlace := ["math/bits.Sub64", "math/bits.Add64"], named := ["math/bits.divideError", "math/bits.overflowError"], apart := false, narrowed := true }
def BucketChargesUptoSaid : Prop := bucketChargesUptoRow.holds Try.pinned (OpenSpec.upto bucketChargesSpec)

/-- 'spigotlaw03.BucketNames', WHERE WHAT IT READS IS OF BULK AT MOST 1048576: true; the input reads as it did. -/
def bucketNamesUptoRow : OpenClaim := { program := "ytmfkedeaifdfdaa", sum := "5623d545e07a0258187dfb0f00dd04e2fffa3b181a1fe1c67336338e767263a1", func := "spigot/spigotlaw03.BucketNames", spec := "bucketNames", inPlace := ["math/bits.Add64", "math/bits.Sub64"], named := ["math/bits.divideError", "math/bits.overflowError"], apart := false, narrowed := true }
def BucketNamesUptoSaid : Prop := bucketNamesUptoRow.holds Try.pinned (OpenSpec.upto bucketNamesSpec)

/-- 'spigotlaw03.BucketWaits', WHERE WHAT IT READS IS OF BULK AT MOST 1048576: true; the input reads as it did. -/
def bucketWaitsUptoRow : OpenClaim := { program := "ytmfkedeaifdfdaa", sum := "5623d545e07a0258187dfb0f00dd04e2fffa3b181a1fe1c67336338e767263a1", func := "spigot/spigotlaw03.BucketWaits", spec := "bucketWaits", inPlace := ["math/bits.Add64", "math/bits.Sub64"], named := ["math/bits.divideError", "math/bits.overflowError"], apart := false, narrowed := true }
def BucketWaitsUptoSaid : Prop := bucketWaitsUptoRow.holds Try.pinned (OpenSpec.upto bucketWaitsSpec)

/-- 'spigotlaw03.BucketMore', WHERE WHAT IT READS IS OF BULK AT MOST 1048576: true; the input reads as it did. -/
def bucketMoreUptoRow : OpenClaim := { program := "ytmfkedeaifdfdaa", sum := "5623d545e07a0258187dfb0f00dd04e2fffa3b181a1fe1c67336338e767263a1", func := "spigot/spigotlaw03.BucketMore", spec := "bucketMore", inPlace := ["math/bits.Add64", "math/bits.Sub64"], named := ["math/bits.divideError", "math/bits.overflowError"], apart := false, narrowed := true }
def BucketMoreUptoSaid : Prop := bucketMoreUptoRow.holds Try.pinned (OpenSpec.upto bucketMoreSpec)

/-- 'spigotlaw03.BucketTwo', WHERE WHAT IT READS IS OF BULK AT MOST 1048576: true; the input reads as it did. -/
def bucketTwoUptoRow : OpenClaim := { program := "ytmfkedeaifdfdaa", sum := "5623d545e07a0258187dfb0f00dd04e2fffa3b181a1fe1c67336338e767263a1", func := "spigot/spigotlaw03.BucketTwo", spec := "bucketTwo", inPlace := ["math/bits.Add64", "math/bits.Sub64"], named := ["math/bits.divideError", "math/bits.overflowError"], apart := false, narrowed := true }
def BucketTwoUptoSaid : Prop := bucketTwoUptoRow.holds Try.pinned (OpenSpec.upto bucketTwoSpec)

/-- 'spigotlaw03.BucketBound', WHERE WHAT IT READS IS OF BULK AT MOST 1048576: true; the input reads as it did. -/
def bucketBoundUptoRow : OpenClaim := { program := "ytmfkedeaifdfdaa", sum := "5623d545e07a0258187dfb0f00dd04e2fffa3b181a1fe1c67336338e767263a1", func := "spigot/spigotlaw03.BucketBound", spec := "bucketBound", inPlace := ["math/bits.Add64", "math/bits.Sub64"], named := ["math/bits.divideError", "math/bits.overflowError"], apart := false, narrowed := true }
def BucketBoundUptoSaid : Prop := bucketBoundUptoRow.holds Try.pinned (OpenSpec.upto bucketBoundSpec)

end Rows
end Go.Proofs.Ytmfkedeaifdfdaa
