/-
  No cell of these rows narrows 'for every input' (looked for: loops, veiled, ifaces, maps, wideKeys, modest, calm, conditions, laid).
  DERIVED. THE GIVEN ROWS OF THIS SEAT. 6 by the template 'for every input the law returns true; each argument reads behind the call as it read before'; 0 by the template 'total and deterministic' (their statements: YtnijohomnajngaaTotals.lean).
  GIVEN WITH THE SEED: the statements are not yours to turn. If you find one false, say at which input.
  Laid BY PROGRAM, IN A SANDBOX (cutbox-rows.mjs): the forced cells as the released guide's own fill.sh prints them over the translation 9d2eebf044ab63a3… (all of the seat's roots in one cut). By AI agents, Wed Nov 11 2026. No macro, syntax, notation, axiom, sorry.
-/
import Derived.Test.YtnijohomnajngaaChecked
import GoSem.Claim
import GoSem.ClaimJoined
import GoSem.ClaimMapViews
import Derived.JoinedTies
import Derived.KernelRfl
namespace Go.Proofs.Ytnijohomnajngaa
/- THE CELL 'sum', in the pinned program and in every row, IS THE sha256 OF THE DUMP (.gsa) THAT YtnijohomnajngaaProg.lean LOADS. Nothing in Lean hashes anything: it is a label: what it is worth is what the hold of that sum in a sandbox is worth. -/
noncomputable def Try.pinned : Pinned := { name := "ytnijohomnajngaa", sum := "9d2eebf044ab63a328e78aa880537c80e643b57396a0d2463989d70ef6bfdaf2", checked := Try.checked }
namespace Rows
def none {H : Type} : Left H := { results := [], args := [] }

/-- 'spigotlaw37.GcraTells': WHATEVER THE INPUT: true; the input reads as it did. -/
def gcraTellsSpec : ChangeSpec := { name := "gcraTells", fn := fun _ => fun
  | [d1, d2, d3, d4] => { results := [.lit (.bool true)], args := [d1, d2, d3, d4] }
  | _ => none }
def gcraTellsRow : OpenClaim := { program := "ytnijohomnajngaa", sum := "9d2eebf044ab63a328e78aa880537c80e643b57396a0d2463989d70ef6bfdaf2", func := "spigot/spigotlaw37.GcraTells", spec := "gcraTells", inPlace := ["math/bits.Add64", "math/bits.Sub64"], named := ["math/bits.divideError", "math/bits.overflowError"], apart := false }
def GcraTellsSaid : Prop := gcraTellsRow.holds Try.pinned (OpenSpec.ofChange gcraTellsSpec)

/-- ITS FALSE NEIGHBOUR: 'it returns false'. Refute it at one input. -/
def gcraTellsWrong : ChangeSpec := { name := "gcraTells", fn := fun _ => fun
  | [d1, d2, d3, d4] => { results := [.lit (.bool false)], args := [d1, d2, d3, d4] }
  | _ => none }
def GcraTellsWrongFalsely : Prop := gcraTellsRow.holds Try.pinned (OpenSpec.ofChange gcraTellsWrong)

/-- 'spigotlaw37.GcraAsks': WHATEVER THE INPUT: true; the input reads as it did. -/
def gcraAsksSpec : ChangeSpec := { name := "gcraAsks", fn := fun _ => fun
  | [d1, d2, d3] => { results := [.lit (.bool true)], args := [d1, d2, d3] }
  | _ => none }
def gcraAsksRow : OpenClaim := { program := "ytnijohomnajngaa", sum := "9d2eebf044ab63a328e78aa880537c80e643b57396a0d2463989d70ef6bfdaf2", func := "spigot/spigotlaw37.GcraAsks", spec := "gcraAsks", inPlace := ["math/bits.Add64", "math/bits.Sub64"], named := ["math/bits.divideError", "math/bits.overflowError"], apart := false }
def GcraAsksSaid : Prop := gcraAsksRow.holds Try.pinned (OpenSpec.ofChange gcraAsksSpec)

/-- ITS FALSE NEIGHBOUR: 'it returns false'. Refute it at one input. -/
def gcraAsksWrong : ChangeSpec := { name := "gcraAsks", fn := fun _ => fun
  | [d1, d2, d3] => { results := [.lit (.bool false)], args := [d1, d2, d3] }
  | _ => none }
def GcraAsksWrongFalsely : Prop := gcraAsksRow.holds Try.pinned (OpenSpec.ofChange gcraAsksWrong)

/-- 'spigotlaw37.GcraLevel': WHATEVER THE INPUT: true; the input reads as it did. -/
def gcraLevelSpec : ChangeSpec := { name := "gcraLevel", fn := fun _ => fun
  | [d1, d2, d3] => { results := [.lit (.bool true)], args := [d1, d2, d3] }
  | _ => none }
def gcraLevelRow : OpenClaim := { program := "ytnijohomnajngaa", sum := "9d2eebf044ab63a328e78aa880537c80e643b57396a0d2463989d70ef6bfdaf2", func := "spigot/spigotlaw37.GcraLevel", spec := "gcraLevel", inPlace := ["math/bits.Add64", "math/bits.Sub64"], named := ["math/bits.divideError", "math/bits.overflowError"], apart := false }
def GcraLevelSaid : Prop := gcraLevelRow.holds Try.pinned (OpenSpec.ofChange gcraLevelSpec)

/-- ITS FALSE NEIGHBOUR: 'it returns false'. Refute it at one input. -/
def gcraLevelWrong : ChangeSpec := { name := "gcraLevel", fn := fun _ => fun
  | [d1, d2, d3] => { results := [.lit (.bool false)], args := [d1, d2, d3] }
  | _ => none }
def GcraLevelWrongFalsely : Prop := gcraLevelRow.holds Try.pinned (OpenSpec.ofChange gcraLevelWrong)

/-- 'spigotlaw37.GcraNames': WHATEVER THE INPUT: true; the input reads as it did. -/
def gcraNamesSpec : ChangeSpec := { name := "gcraNames", fn := fun _ => fun
  | [] => { results := [.lit (.bool true)], args := [] }
  | _ => none }
def gcraNamesRow : OpenClaim := { program := "ytnijohomnajngaa", sum := "9d2eebf044ab63a328e78aa880537c80e643b57396a0d2463989d70ef6bfdaf2", func := "spigot/spigotlaw37.GcraNames", spec := "gcraNames", inPlace := ["math/bits.Add64", "math/bits.Sub64"], named := ["math/bits.divideError", "math/bits.overflowError"], apart := false }
def GcraNamesSaid : Prop := gcraNamesRow.holds Try.pinned (OpenSpec.ofChange gcraNamesSpec)

/-- ITS FALSE NEIGHBOUR: 'it returns false'. Refute it at one input. -/
def gcraNamesWrong : ChangeSpec := { name := "gcraNames", fn := fun _ => fun
  | [] => { results := [.lit (.bool false)], args := [] }
  | _ => none }
def GcraNamesWrongFalsely : Prop := gcraNamesRow.holds Try.pinned (OpenSpec.ofChange gcraNamesWrong)

/-- 'spigotlaw37.GcraSame': WHATEVER THE INPUT: true; the input reads as it did. -/
def gcraSameSpec : ChangeSpec := { name := "gcraSame", fn := fun _ => fun
  | [d1, d2, d3] => { results := [.lit (.bool true)], args := [d1, d2, d3] }
  | _ => none }
def gcraSameRow : OpenClaim := { program := "ytnijohomnajngaa", sum := "9d2eebf044ab63a328e78aa880537c80e643b57396a0d2463989d70ef6bfdaf2", func := "spigot/spigotlaw37.GcraSame", spec := "gcraSame", inPlace := ["math/bits.Add64", "math/bits.Sub64"], named := ["math/bits.divideError", "math/bits.overflowError"], apart := false }
def GcraSameSaid : Prop := gcraSameRow.holds Try.pinned (OpenSpec.ofChange gcraSameSpec)

/-- ITS FALSE NEIGHBOUR: 'it returns false'. Refute it at one input. -/
def gcraSameWrong : ChangeSpec := { name := "gcraSame", fn := fun _ => fun
  | [d1, d2, d3] => { results := [.lit (.bool false)], args := [d1, d2, d3] }
  | _ => none }
def GcraSameWrongFalsely : Prop := gcraSameRow.holds Try.pinned (OpenSpec.ofChange gcraSameWrong)

/-- 'spigotlaw37.GcraInverse': WHATEVER THE INPUT: true; the input reads as it did. -/
def gcraInverseSpec : ChangeSpec := { name := "gcraInverse", fn := fun _ => fun
  | [d1, d2, d3, d4] => { results := [.lit (.bool true)], args := [d1, d2, d3, d4] }
  | _ => none }
def gcraInverseRow : OpenClaim := { program := "ytnijohomnajngaa", sum := "9d2eebf044ab63a328e78aa880537c80e643b57396a0d2463989d70ef6bfdaf2", func := "spigot/spigotlaw37.GcraInverse", spec := "gcraInverse", inPlace := ["math/bits.Add64", "math/bits.Sub64"], named := ["math/bits.divideError", "math/bits.overflowError"], apart := false }
def GcraInverseSaid : Prop := gcraInverseRow.holds Try.pinned (OpenSpec.ofChange gcraInverseSpec)

/-- ITS FALSE NEIGHBOUR: 'it returns false'. Refute it at one input. -/
def gcraInverseWrong : ChangeSpec := { name := "gcraInverse", fn := fun _ => fun
  | [d1, d2, d3, d4] => { results := [.lit (.bool false)], args := [d1, d2, d3, d4] }
  | _ => none }
def GcraInverseWrongFalsely : Prop := gcraInverseRow.holds Try.pinned (OpenSpec.ofChange gcraInverseWrong)

/- THE SECOND FORM. 'bulk': how many values and letters a reading holds, each counted each time it is reached (what is shared counts as often as it is met; a slice's spare places count too). A statement '..UptoSaid' is the law's where the arguments, and the package variables that the reading takes, are together of bulk at most 1048576: NARROWER than '..Said'. Prove '..Said' where nothing that the law and all that it calls make is longer than what came in: it says more and counts as full. Else prove '..UptoSaid'. A law counts once. -/
mutual
def uptoBulk {H : Type} : DataW H → Nat
  | .lit (.string bytes) => bytes.length + 1
  | .lit _ => 1
  | .nil => 1
  | .ptr d => uptoBulk d + 1
  | .slice elems spare => uptoBulkAll elems + uptoBulkAll spare + 1
  | .agg parts => uptoBulkAll parts + 1
  | .iface _ d => uptoBulk d + 1
  | .map entries => uptoBulkEntries entries + 1
  | .held _ => 1
def uptoBulkAll {H : Type} : List (DataW H) → Nat
  | [] => 0
  | d :: r => uptoBulk d + uptoBulkAll r
def uptoBulkEntries {H : Type} : List (Lit × DataW H) → Nat
  | [] => 0
  | x :: r => uptoBulkEntry x + uptoBulkEntries r
def uptoBulkEntry {H : Type} : Lit × DataW H → Nat
  | (.string bytes, d) => bytes.length + uptoBulk d + 1
  | (_, d) => uptoBulk d + 1
 end
def uptoSmall : (H : Type) → List (DataW H) → Bool := fun _ ds => decide (uptoBulkAll ds ≤ 1048576)
def OpenSpec.upto (s : _root_.Go.ChangeSpec) : _root_.Go.OpenSpec := { _root_.Go.OpenSpec.ofChange s with cond := some uptoSmall }

/-- 'spigotlaw37.GcraTells', WHERE WHAT IT READS IS OF BULK AT MOST 1048576: true; the input reads as it did. -/
def gcraTellsUptoRow : OpenClaim := { program := "ytnijohomnajngaa", sum := "9d2eebf044ab63a328e78aa880537c80e643b57396a0d2463989d70ef6bfdaf2", func := "spigot/spigotlaw37.GcraTells", spec := "gcraTells", inPlace := ["math/bits.Add64", "math/bits.Sub64"], named := ["math/bits.divideError", "math/bits.overflowError"], apart := false, narrowed := true }
def GcraTellsUptoSaid : Prop := gcraTellsUptoRow.holds Try.pinned (OpenSpec.upto gcraTellsSpec)

/-- 'spigotlaw37.GcraAsks', WHERE WHAT IT READS IS OF BULK AT MOST 1048576: true; the input reads as it did. -/
def gcraAsksUptoRow : OpenClaim := { program := "ytnijohomnajngaa", sum := "9d2eebf044ab63a328e78aa880537c80e643b57396a0d2463989d70ef6bfdaf2", func := "spigot/spigotlaw37.GcraAsks", spec := "gcraAsks", inPlace := ["math/bits.Add64", "math/bits.Sub64"], named := ["math/bits.divideError", "math/bits.overflowError"], apart := false, narrowed := true }
def GcraAsksUptoSaid : Prop := gcraAsksUptoRow.holds Try.pinned (OpenSpec.upto gcraAsksSpec)

/-- 'spigotlaw37.GcraLevel', WHERE WHAT IT READS IS OF BULK AT MOST 1048576: true; the input reads as it did. -/
def gcraLevelUptoRow : OpenClaim := { program := "ytnijohomnajngaa", sum := "9d2eebf044ab63a328e78aa880537c80e643b57396a0d2463989d70ef6bfdaf2", func := "spigot/spigotlaw37.GcraLevel", spec := "gcraLevel", inPlace := ["math/bits.Add64", "math/bits.Sub64"], named := ["math/bits.divideError", "math/bits.overflowError"], apart := false, narrowed := true }
def GcraLevelUptoSaid : Prop := gcraLevelUptoRow.holds Try.pinned (OpenSpec.upto gcraLevelSpec)

/-- 'spigotlaw37.GcraNames', WHERE WHAT IT READS IS OF BULK AT MOST 1048576: true; the input reads as it did. -/
def gcraNamesUptoRow : OpenClaim := { program := "ytnijohomnajngaa", sum := "9d2eebf044ab63a328e78aa880537c80e643b57396a0d2463989d70ef6bfdaf2", func := "spigot/spigotlaw37.GcraNames", spec := "gcraNames", inPlace := ["math/bits.Add64", "math/bits.Sub64"], named := ["math/bits.divideError", "math/bits.overflowError"], apart := false, narrowed := true }
def GcraNamesUptoSaid : Prop := gcraNamesUptoRow.holds Try.pinned (OpenSpec.upto gcraNamesSpec)

/-- 'spigotlaw37.GcraSame', WHERE WHAT IT READS IS OF BULK AT MOST 1048576: true; the input reads as it did. -/
def gcraSameUptoRow : OpenClaim := { program := "ytnijohomnajngaa", sum := "9d2eebf044ab63a328e78aa880537c80e643b57396a0d2463989d70ef6bfdaf2", func := "spigot/spigotlaw37.GcraSame", spec := "gcraSame", inPlace := ["math/bits.Add64", "math/bits.Sub64"], named := ["math/bits.divideError", "math/bits.overflowError"], apart := false, narrowed := true }
def GcraSameUptoSaid : Prop := gcraSameUptoRow.holds Try.pinned (OpenSpec.upto gcraSameSpec)

/-- 'spigotlaw37.GcraInverse', WHERE WHAT IT READS IS OF BULK AT MOST 1048576: true; the input reads as it did. -/
def gcraInverseUptoRow : OpenClaim := { program := "ytnijohomnajngaa", sum := "9d2eebf044ab63a328e78aa880537c80e643b57396a0d2463989d70ef6bfdaf2", func := "spigot/spigotlaw37.GcraInverse", spec := "gcraInverse", inPlace := ["math/bits.Add64", "math/bits.Sub64"], named := ["math/bits.divideError", "math/bits.overflowError"], apart := false, narrowed := true }
def GcraInverseUptoSaid : Prop := gcraInverseUptoRow.holds Try.pinned (OpenSpec.upto gcraInverseSpec)

end Rows
end Go.Proofs.Ytnijohomnajngaa
