/-
  No cell of these rows narrows 'for every input' (looked for: loops, veiled, ifaces, maps, wideKeys, modest, calm, conditions, laid).
  DERIVED. THE GIVEN ROWS OF THIS SEAT. 7 by the template 'for every input the law returns true; each argument reads behind the call as it read before'; 0 by the template 'total and deterministic' (their statements: YtaegpnbgppjicaaTotals.lean).
  GIVEN WITH THE SEED: the statements are not yours to turn. If you find one false, say at which input.
  Laid BY PROGRAM, IN A SANDBOX (cutbox-rows.mjs): the forced cells as the released guide's own fill.sh prints them over the translation 58a1d4e517b27d28… (all of the seat's roots in one cut). By AI agents, Wed Nov 11 2026. No macro, syntax, notation, axiom, sorry.
-/
import Derived.Test.YtaegpnbgppjicaaChecked
import GoSem.Claim
import GoSem.ClaimJoined
import GoSem.ClaimMapViews
import Derived.JoinedTies
import Derived.KernelRfl
namespace Go.Proofs.Ytaegpnbgppjicaa
/- THE CELL 'sum', in the pinned program and in every row, IS THE sha256 OF THE DUMP (.gsa) THAT YtaegpnbgppjicaaProg.lean LOADS. Nothing in Lean hashes anything: it is a label: what it is worth is what the hold of that sum in a sandbox is worth. -/
noncomputable def Try.pinned : Pinned := { name := "ytaegpnbgppjicaa", sum := "58a1d4e517b27d28158b5e09af6938311874dce335c57d4d983f47ec11923b5e", checked := Try.checked }
namespace Rows
def none {H : Type} : Left H := { results := [], args := [] }

/-- 'spigotlaw04.LevelsRuns': WHATEVER THE INPUT: true; the input reads as it did. -/
def levelsRunsSpec : ChangeSpec := { name := "levelsRuns", fn := fun _ => fun
  | [d1, d2, d3] => { results := [.lit (.bool true)], args := [d1, d2, d3] }
  | _ => none }
def levelsRunsRow : OpenClaim := { program := "ytaegpnbgppjicaa", sum := "58a1d4e517b27d28158b5e09af6938311874dce335c57d4d983f47ec11923b5e", func := "spigot/spigotlaw04.LevelsRuns", spec := "levelsRuns", inPlace := ["math/bits.Add64"], unfollowed := true, recurses := true, named := ["math/bits.divideError", "math/bits.overflowError"], apart := false }
def LevelsRunsSaid : Prop := levelsRunsRow.holds Try.pinned (OpenSpec.ofChange levelsRunsSpec)

/-- ITS FALSE NEIGHBOUR: 'it returns false'. Refute it at one input. -/
def levelsRunsWrong : ChangeSpec := { name := "levelsRuns", fn := fun _ => fun
  | [d1, d2, d3] => { results := [.lit (.bool false)], args := [d1, d2, d3] }
  | _ => none }
def LevelsRunsWrongFalsely : Prop := levelsRunsRow.holds Try.pinned (OpenSpec.ofChange levelsRunsWrong)

/-- 'spigotlaw04.LevelsWaits': WHATEVER THE INPUT: true; the input reads as it did. -/
def levelsWaitsSpec : ChangeSpec := { name := "levelsWaits", fn := fun _ => fun
  | [d1, d2] => { results := [.lit (.bool true)], args := [d1, d2] }
  | _ => none }
def levelsWaitsRow : OpenClaim := { program := "ytaegpnbgppjicaa", sum := "58a1d4e517b27d28158b5e09af6938311874dce335c57d4d983f47ec11923b5e", func := "spigot/spigotlaw04.LevelsWaits", spec := "levelsWaits", inPlace := ["math/bits.Add64", "math/bits.Sub64"], unfollowed := true, recurses := true, named := ["math/bits.divideError", "math/bits.overflowError"], apart := false }
def LevelsWaitsSaid : Prop := levelsWaitsRow.holds Try.pinned (OpenSpec.ofChange levelsWaitsSpec)

/-- ITS FALSE NEIGHBOUR: 'it returns false'. Refute it at one input. -/
def levelsWaitsWrong : ChangeSpec := { name := "levelsWaits", fn := fun _ => fun
  | [d1, d2] => { results := [.lit (.bool false)], args := [d1, d2] }
  | _ => none }
def LevelsWaitsWrongFalsely : Prop := levelsWaitsRow.holds Try.pinned (OpenSpec.ofChange levelsWaitsWrong)

/-- 'spigotlaw04.LevelsTakes': WHATEVER THE INPUT: true; the input reads as it did. -/
def levelsTakesSpec : ChangeSpec := { name := "levelsTakes", fn := fun _ => fun
  | [d1, d2, d3] => { results := [.lit (.bool true)], args := [d1, d2, d3] }
  | _ => none }
def levelsTakesRow : OpenClaim := { program := "ytaegpnbgppjicaa", sum := "58a1d4e517b27d28158b5e09af6938311874dce335c57d4d983f47ec11923b5e", func := "spigot/spigotlaw04.LevelsTakes", spec := "levelsTakes", inPlace := ["math/bits.Add64", "math/bits.Sub64"], unfollowed := true, recurses := true, named := ["math/bits.divideError", "math/bits.overflowError"], apart := false }
def LevelsTakesSaid : Prop := levelsTakesRow.holds Try.pinned (OpenSpec.ofChange levelsTakesSpec)

/-- ITS FALSE NEIGHBOUR: 'it returns false'. Refute it at one input. -/
def levelsTakesWrong : ChangeSpec := { name := "levelsTakes", fn := fun _ => fun
  | [d1, d2, d3] => { results := [.lit (.bool false)], args := [d1, d2, d3] }
  | _ => none }
def LevelsTakesWrongFalsely : Prop := levelsTakesRow.holds Try.pinned (OpenSpec.ofChange levelsTakesWrong)

/-- 'spigotlaw04.LevelsParts': WHATEVER THE INPUT: true; the input reads as it did. -/
def levelsPartsSpec : ChangeSpec := { name := "levelsParts", fn := fun _ => fun
  | [d1, d2, d3, d4] => { results := [.lit (.bool true)], args := [d1, d2, d3, d4] }
  | _ => none }
def levelsPartsRow : OpenClaim := { program := "ytaegpnbgppjicaa", sum := "58a1d4e517b27d28158b5e09af6938311874dce335c57d4d983f47ec11923b5e", func := "spigot/spigotlaw04.LevelsParts", spec := "levelsParts", inPlace := ["math/bits.Add64", "math/bits.Sub64"], unfollowed := true, recurses := true, named := ["math/bits.divideError", "math/bits.overflowError"], apart := false }
def LevelsPartsSaid : Prop := levelsPartsRow.holds Try.pinned (OpenSpec.ofChange levelsPartsSpec)

/-- ITS FALSE NEIGHBOUR: 'it returns false'. Refute it at one input. -/
def levelsPartsWrong : ChangeSpec := { name := "levelsParts", fn := fun _ => fun
  | [d1, d2, d3, d4] => { results := [.lit (.bool false)], args := [d1, d2, d3, d4] }
  | _ => none }
def LevelsPartsWrongFalsely : Prop := levelsPartsRow.holds Try.pinned (OpenSpec.ofChange levelsPartsWrong)

/-- 'spigotlaw04.LevelsAll': WHATEVER THE INPUT: true; the input reads as it did. -/
def levelsAllSpec : ChangeSpec := { name := "levelsAll", fn := fun _ => fun
  | [d1, d2, d3] => { results := [.lit (.bool true)], args := [d1, d2, d3] }
  | _ => none }
def levelsAllRow : OpenClaim := { program := "ytaegpnbgppjicaa", sum := "58a1d4e517b27d28158b5e09af6938311874dce335c57d4d983f47ec11923b5e", func := "spigot/spigotlaw04.LevelsAll", spec := "levelsAll", inPlace := ["math/bits.Add64", "math/bits.Sub64"], unfollowed := true, recurses := true, named := ["math/bits.divideError", "math/bits.overflowError"], apart := false }
def LevelsAllSaid : Prop := levelsAllRow.holds Try.pinned (OpenSpec.ofChange levelsAllSpec)

/-- ITS FALSE NEIGHBOUR: 'it returns false'. Refute it at one input. -/
def levelsAllWrong : ChangeSpec := { name := "levelsAll", fn := fun _ => fun
  | [d1, d2, d3] => { results := [.lit (.bool false)], args := [d1, d2, d3] }
  | _ => none }
def LevelsAllWrongFalsely : Prop := levelsAllRow.holds Try.pinned (OpenSpec.ofChange levelsAllWrong)

/-- 'spigotlaw04.LevelsNames': WHATEVER THE INPUT: true; the input reads as it did. -/
def levelsNamesSpec : ChangeSpec := { name := "levelsNames", fn := fun _ => fun
  | [] => { results := [.lit (.bool true)], args := [] }
  | _ => none }
def levelsNamesRow : OpenClaim := { program := "ytaegpnbgppjicaa", sum := "58a1d4e517b27d28158b5e09af6938311874dce335c57d4d983f47ec11923b5e", func := "spigot/spigotlaw04.LevelsNames", spec := "levelsNames", inPlace := ["math/bits.Add64", "math/bits.Sub64"], unfollowed := true, recurses := true, named := ["math/bits.divideError", "math/bits.overflowError"], apart := false }
def LevelsNamesSaid : Prop := levelsNamesRow.holds Try.pinned (OpenSpec.ofChange levelsNamesSpec)

/-- ITS FALSE NEIGHBOUR: 'it returns false'. Refute it at one input. -/
def levelsNamesWrong : ChangeSpec := { name := "levelsNames", fn := fun _ => fun
  | [] => { results := [.lit (.bool false)], args := [] }
  | _ => none }
def LevelsNamesWrongFalsely : Prop := levelsNamesRow.holds Try.pinned (OpenSpec.ofChange levelsNamesWrong)

/-- 'spigotlaw04.LevelsAlone': WHATEVER THE INPUT: true; the input reads as it did. -/
def levelsAloneSpec : ChangeSpec := { name := "levelsAlone", fn := fun _ => fun
  | [d1, d2, d3, d4] => { results := [.lit (.bool true)], args := [d1, d2, d3, d4] }
  | _ => none }
def levelsAloneRow : OpenClaim := { program := "ytaegpnbgppjicaa", sum := "58a1d4e517b27d28158b5e09af6938311874dce335c57d4d983f47ec11923b5e", func := "spigot/spigotlaw04.LevelsAlone", spec := "levelsAlone", inPlace := ["math/bits.Add64", "math/bits.Sub64"], unfollowed := true, recurses := true, named := ["math/bits.divideError", "math/bits.overflowError"], apart := false }
def LevelsAloneSaid : Prop := levelsAloneRow.holds Try.pinned (OpenSpec.ofChange levelsAloneSpec)

/-- ITS FALSE NEIGHBOUR: 'it returns false'. Refute it at one input. -/
def levelsAloneWrong : ChangeSpec := { name := "levelsAlone", fn := fun _ => fun
  | [d1, d2, d3, d4] => { results := [.lit (.bool false)], args := [d1, d2, d3, d4] }
  | _ => none }
def LevelsAloneWrongFalsely : Prop := levelsAloneRow.holds Try.pinned (OpenSpec.ofChange levelsAloneWrong)

/- THE SECOND FORM. 'bulk': how many values and letters a reading holds, each counted each time it is reached (what is shared counts as often as it is met; a slice's spare places count too). A statement '..UptoSaid' is the law's where the arguments, and the package variables that the reading takes, are together of bulk at most 1048576: NARROWER than '..Said'. Prove '..Said' where nothing that the law and all that it calls make is longer than what came in: it says more and counts as full. Else prove '..UptoSaid'. A law counts once. -/
mutual
def uptoBulk {H : Type} : DataW H → Nat
  | .lit (.string bytes) => bytes.length + 1
  | .lit _ => 1
  | .nil => 1
  | .ptr d => uptoBulk d + 1
  | .slice elems spare => uptoBulkAll elems + uptoBulkAll spare + 1
  | .agg parts => uptoBulkAll parts + 1
  | .iface _ d => uptoBulk d + 1
  | .map entries => uptoBulkEntries entries + 1
  | .held _ => 1
def uptoBulkAll {H : Type} : List (DataW H) → Nat
  | [] => 0
  | d :: r => uptoBulk d + uptoBulkAll r
def uptoBulkEntries {H : Type} : List (Lit × DataW H) → Nat
  | [] => 0
  | x :: r => uptoBulkEntry x + uptoBulkEntries r
def uptoBulkEntry {H : Type} : Lit × DataW H → Nat
  | (.string bytes, d) => bytes.length + uptoBulk d + 1
  | (_, d) => uptoBulk d + 1
 end
def uptoSmall : (H : Type) → List (DataW H) → Bool := fun _ ds => decide (uptoBulkAll ds ≤ 1048576)
def OpenSpec.upto (s : _root_.Go.ChangeSpec) : _root_.Go.OpenSpec := { _root_.Go.OpenSpec.ofChange s with cond := some uptoSmall }

/-- 'spigotlaw04.LevelsRuns', WHERE WHAT IT READS IS OF BULK AT MOST 1048576: true; the input reads as it did. -/
def levelsRunsUptoRow : OpenClaim := { program := "ytaegpnbgppjicaa", sum := "58a1d4e517b27d28158b5e09af6938311874dce335c57d4d983f47ec11923b5e", func := "spigot/spigotlaw04.LevelsRuns", spec := "levelsRuns", inPlace := ["math/bits.Add64"], unfollowed := true, recurses := true, named := ["math/bits.divideError", "math/bits.overflowError"], apart := false, narrowed := true }
def LevelsRunsUptoSaid : Prop := levelsRunsUptoRow.holds Try.pinned (OpenSpec.upto levelsRunsSpec)

/-- 'spigotlaw04.LevelsWaits', WHERE WHAT IT READS IS OF BULK AT MOST 1048576: true; the input reads as it did. -/
def levelsWaitsUptoRow : OpenClaim := { program := "ytaegpnbgppjicaa", sum := "58a1d4e517b27d28158b5e09af6938311874dce335c57d4d983f47ec11923b5e", func := "spigot/spigotlaw04.LevelsWaits", spec := "levelsWaits", inPlace := ["math/bits.Add64", "math/bits.Sub64"], unfollowed := true, recurses := true, named := ["math/bits.divideError", "math/bits.overflowError"], apart := false, narrowed := true }
def LevelsWaitsUptoSaid : Prop := levelsWaitsUptoRow.holds Try.pinned (OpenSpec.upto levelsWaitsSpec)

/-- 'spigotlaw04.LevelsTakes', WHERE WHAT IT READS IS OF BULK AT MOST 1048576: true; the input reads as it did. -/
def levelsTakesUptoRow : OpenClaim := { program := "ytaegpnbgppjicaa", sum := "58a1d4e517b27d28158b5e09af6938311874dce335c57d4d983f47ec11923b5e", func := "spigot/spigotlaw04.LevelsTakes", spec := "levelsTakes", inPlace := ["math/bits.Add64", "math/bits.Sub64"], unfollowed := true, recurses := true, named := ["math/bits.divideError", "math/bits.overflowError"], apart := false, narrowed := true }
def LevelsTakesUptoSaid : Prop := levelsTakesUptoRow.holds Try.pinned (OpenSpec.upto levelsTakesSpec)

/-- 'spigotlaw04.LevelsParts', WHERE WHAT IT READS IS OF BULK AT MOST 1048576: true; the input reads as it did. -/
def levelsPartsUptoRow : OpenClaim := { program := "ytaegpnbgppjicaa", sum := "58a1d4e517b27d28158b5e09af6938311874dce335c57d4d983f47ec11923b5e", func := "spigot/spigotlaw04.LevelsParts", spec := "levelsParts", inPlace := ["math/bits.Add64", "math/bits.Sub64"], unfollowed := true, recurses := true, named := ["math/bits.divideError", "math/bits.overflowError"], apart := false, narrowed := true }
def LevelsPartsUptoSaid : Prop := levelsPartsUptoRow.holds Try.pinned (OpenSpec.upto levelsPartsSpec)

/-- 'spigotlaw04.LevelsAll', WHERE WHAT IT READS IS OF BULK AT MOST 1048576: true; the input reads as it did. -/
def levelsAllUptoRow : OpenClaim := { program := "ytaegpnbgppjicaa", sum := "58a1d4e517b27d28158b5e09af6938311874dce335c57d4d983f47ec11923b5e", func := "spigot/spigotlaw04.LevelsAll", spec := "levelsAll", inPlace := ["math/bits.Add64", "math/bits.Sub64"], unfollowed := true, recurses := true, named := ["math/bits.divideError", "math/bits.overflowError"], apart := false, narrowed := true }
def LevelsAllUptoSaid : Prop := levelsAllUptoRow.holds Try.pinned (OpenSpec.upto levelsAllSpec)

/-- 'spigotlaw04.LevelsNames', WHERE WHAT IT READS IS OF BULK AT MOST 1048576: true; the input reads as it did. -/
def levelsNamesUptoRow : OpenClaim := { program := "ytaegpnbgppjicaa", sum := "58a1d4e517b27d28158b5e09af6938311874dce335c57d4d983f47ec11923b5e", func := "spigot/spigotlaw04.LevelsNames", spec := "levelsNames", inPlace := ["math/bits.Add64", "math/bits.Sub64"], unfollowed := true, recurses := true, named := ["math/bits.divideError", "math/bits.overflowError"], apart := false, narrowed := true }
def LevelsNamesUptoSaid : Prop := levelsNamesUptoRow.holds Try.pinned (OpenSpec.upto levelsNamesSpec)

/-- 'spigotlaw04.LevelsAlone', WHERE WHAT IT READS IS OF BULK AT MOST 1048576: true; the input reads as it did. -/
def levelsAloneUptoRow : OpenClaim := { program := "ytaegpnbgppjicaa", sum := "58a1d4e517b27d28158b5e09af6938311874dce335c57d4d983f47ec11923b5e", func := "spigot/spigotlaw04.LevelsAlone", spec := "levelsAlone", inPlace := ["math/bits.Add64", "math/bits.Sub64"], unfollowed := true, recurses := true, named := ["math/bits.divideError", "math/bits.overflowError"], apart := false, narrowed := true }
def LevelsAloneUptoSaid : Prop := levelsAloneUptoRow.holds Try.pinned (OpenSpec.upto levelsAloneSpec)

end Rows
end Go.Proofs.Ytaegpnbgppjicaa
