/-
  No cell of these rows narrows 'for every input' (looked for: loops, veiled, ifaces, maps, wideKeys, modest, calm, conditions, laid).
  DERIVED. THE GIVEN ROWS OF THIS SEAT. 6 by the template 'for every input the law returns true; each argument reads behind the call as it read before'; 0 by the template 'total and deterministic' (their statements: YtimhghmfhfggoaaTotals.lean).
  GIVEN WITH THE SEED: the statements are not yours to turn. If you find one false, say at which input.
  Laid BY PROGRAM, IN A SANDBOX (cutbox-rows.mjs): the forced cells as the released guide's own fill.sh prints them over the translation 939fa57eae49f14f… (all of the seat's roots in one cut). By AI agents, Wed Nov 11 2026. No macro, syntax, notation, axiom, sorry.
-/
import Derived.Test.YtimhghmfhfggoaaChecked
import GoSem.Claim
import GoSem.ClaimJoined
import GoSem.ClaimMapViews
import Derived.JoinedTies
import Derived.KernelRfl
namespace Go.Proofs.Ytimhghmfhfggoaa
/- THE CELL 'sum', in the pinned program and in every row, IS THE sha256 OF THE DUMP (.gsa) THAT YtimhghmfhfggoaaProg.lean LOADS. Nothing in Lean hashes anything: it is a label: what it is worth is what the hold of that sum in a sandbox is worth. -/
noncomputable def Try.pinned : Pinned := { name := "ytimhghmfhfggoaa", sum := "939fa57eae49f14f9c70debb365fb580d9933481f4016099eb508d9e223d5803", checked := Try.checked }
namespace Rows
def none {H : Type} : Left H := { results := [], args := [] }

/-- 'spigotlaw40.CurveTells': WHATEVER THE INPUT: true; the input reads as it did. -/
def curveTellsSpec : ChangeSpec := { name := "curveTells", fn := fun _ => fun
  | [d1, d2, d3] => { results := [.lit (.bool true)], args := [d1, d2, d3] }
  | _ => none }
def curveTellsRow : OpenClaim := { program := "ytimhghmfhfggoaa", sum := "939fa57eae49f14f9c70debb365fb580d9933481f4016099eb508d9e223d5803", func := "spigot/spigotlaw40.CurveTells", spec := "curveTells", unfollowed := true, recurses := true, named := ["math/bits.divideError", "math/bits.overflowError"], plainKeys := false, apart := false }
def CurveTellsSaid : Prop := curveTellsRow.holds Try.pinned (OpenSpec.ofChange curveTellsSpec)

/-- ITS FALSE NEIGHBOUR: 'it returns false'. Refute it at one input. -/
def curveTellsWrong : ChangeSpec := { name := "curveTells", fn := fun _ => fun
  | [d1, d2, d3] => { results := [.lit (.bool false)], args := [d1, d2, d3] }
  | _ => none }
def CurveTellsWrongFalsely : Prop := curveTellsRow.holds Try.pinned (OpenSpec.ofChange curveTellsWrong)

/-- 'spigotlaw40.CurveBelow': WHATEVER THE INPUT: true; the input reads as it did. -/
def curveBelowSpec : ChangeSpec := { name := "curveBelow", fn := fun _ => fun
  | [d1, d2] => { results := [.lit (.bool true)], args := [d1, d2] }
  | _ => none }
def curveBelowRow : OpenClaim := { program := "ytimhghmfhfggoaa", sum := "939fa57eae49f14f9c70debb365fb580d9933481f4016099eb508d9e223d5803", func := "spigot/spigotlaw40.CurveBelow", spec := "curveBelow", inPlace := ["math/bits.Add64"], unfollowed := true, recurses := true, named := ["math/bits.divideError", "math/bits.overflowError"], plainKeys := false, apart := false }
def CurveBelowSaid : Prop := curveBelowRow.holds Try.pinned (OpenSpec.ofChange curveBelowSpec)

/-- ITS FALSE NEIGHBOUR: 'it returns false'. Refute it at one input. -/
def curveBelowWrong : ChangeSpec := { name := "curveBelow", fn := fun _ => fun
  | [d1, d2] => { results := [.lit (.bool false)], args := [d1, d2] }
  | _ => none }
def CurveBelowWrongFalsely : Prop := curveBelowRow.holds Try.pinned (OpenSpec.ofChange curveBelowWrong)

/-- 'spigotlaw40.CurveGrows': WHATEVER THE INPUT: true; the input reads as it did. -/
def curveGrowsSpec : ChangeSpec := { name := "curveGrows", fn := fun _ => fun
  | [d1, d2, d3, d4] => { results := [.lit (.bool true)], args := [d1, d2, d3, d4] }
  | _ => none }
def curveGrowsRow : OpenClaim := { program := "ytimhghmfhfggoaa", sum := "939fa57eae49f14f9c70debb365fb580d9933481f4016099eb508d9e223d5803", func := "spigot/spigotlaw40.CurveGrows", spec := "curveGrows", inPlace := ["math/bits.Add64"], unfollowed := true, recurses := true, named := ["math/bits.divideError", "math/bits.overflowError"], plainKeys := false, apart := false }
def CurveGrowsSaid : Prop := curveGrowsRow.holds Try.pinned (OpenSpec.ofChange curveGrowsSpec)

/-- ITS FALSE NEIGHBOUR: 'it returns false'. Refute it at one input. -/
def curveGrowsWrong : ChangeSpec := { name := "curveGrows", fn := fun _ => fun
  | [d1, d2, d3, d4] => { results := [.lit (.bool false)], args := [d1, d2, d3, d4] }
  | _ => none }
def CurveGrowsWrongFalsely : Prop := curveGrowsRow.holds Try.pinned (OpenSpec.ofChange curveGrowsWrong)

/-- 'spigotlaw40.CurvePasses': WHATEVER THE INPUT: true; the input reads as it did. -/
def curvePassesSpec : ChangeSpec := { name := "curvePasses", fn := fun _ => fun
  | [d1, d2, d3] => { results := [.lit (.bool true)], args := [d1, d2, d3] }
  | _ => none }
def curvePassesRow : OpenClaim := { program := "ytimhghmfhfggoaa", sum := "939fa57eae49f14f9c70debb365fb580d9933481f4016099eb508d9e223d5803", func := "spigot/spigotlaw40.CurvePasses", spec := "curvePasses", inPlace := ["math/bits.Add64"], unfollowed := true, recurses := true, named := ["math/bits.divideError", "math/bits.overflowError"], plainKeys := false, apart := false }
def CurvePassesSaid : Prop := curvePassesRow.holds Try.pinned (OpenSpec.ofChange curvePassesSpec)

/-- ITS FALSE NEIGHBOUR: 'it returns false'. Refute it at one input. -/
def curvePassesWrong : ChangeSpec := { name := "curvePasses", fn := fun _ => fun
  | [d1, d2, d3] => { results := [.lit (.bool false)], args := [d1, d2, d3] }
  | _ => none }
def CurvePassesWrongFalsely : Prop := curvePassesRow.holds Try.pinned (OpenSpec.ofChange curvePassesWrong)

/-- 'spigotlaw40.CurveNames': WHATEVER THE INPUT: true; the input reads as it did. -/
def curveNamesSpec : ChangeSpec := { name := "curveNames", fn := fun _ => fun
  | [] => { results := [.lit (.bool true)], args := [] }
  | _ => none }
def curveNamesRow : OpenClaim := { program := "ytimhghmfhfggoaa", sum := "939fa57eae49f14f9c70debb365fb580d9933481f4016099eb508d9e223d5803", func := "spigot/spigotlaw40.CurveNames", spec := "curveNames", inPlace := ["math/bits.Add64"], unfollowed := true, recurses := true, named := ["math/bits.divideError", "math/bits.overflowError"], plainKeys := false, apart := false }
def CurveNamesSaid : Prop := curveNamesRow.holds Try.pinned (OpenSpec.ofChange curveNamesSpec)

/-- ITS FALSE NEIGHBOUR: 'it returns false'. Refute it at one input. -/
def curveNamesWrong : ChangeSpec := { name := "curveNames", fn := fun _ => fun
  | [] => { results := [.lit (.bool false)], args := [] }
  | _ => none }
def CurveNamesWrongFalsely : Prop := curveNamesRow.holds Try.pinned (OpenSpec.ofChange curveNamesWrong)

/-- 'spigotlaw40.CurveParts': WHATEVER THE INPUT: true; the input reads as it did. -/
def curvePartsSpec : ChangeSpec := { name := "curveParts", fn := fun _ => fun
  | [d1, d2, d3, d4] => { results := [.lit (.bool true)], args := [d1, d2, d3, d4] }
  | _ => none }
def curvePartsRow : OpenClaim := { program := "ytimhghmfhfggoaa", sum := "939fa57eae49f14f9c70debb365fb580d9933481f4016099eb508d9e223d5803", func := "spigot/spigotlaw40.CurveParts", spec := "curveParts", inPlace := ["math/bits.Add64"], unfollowed := true, recurses := true, named := ["math/bits.divideError", "math/bits.overflowError"], plainKeys := false, apart := false }
def CurvePartsSaid : Prop := curvePartsRow.holds Try.pinned (OpenSpec.ofChange curvePartsSpec)

/-- ITS FALSE NEIGHBOUR: 'it returns false'. Refute it at one input. -/
def curvePartsWrong : ChangeSpec := { name := "curveParts", fn := fun _ => fun
  | [d1, d2, d3, d4] => { results := [.lit (.bool false)], args := [d1, d2, d3, d4] }
  | _ => none }
def CurvePartsWrongFalsely : Prop := curvePartsRow.holds Try.pinned (OpenSpec.ofChange curvePartsWrong)

/- THE SECOND FORM. 'bulk': how many values and letters a reading holds, each counted each time it is reached (what is shared counts as often as it is met; a slice's spare places count too). A statement '..UptoSaid' is the law's where the arguments, and the package variables that the reading takes, are together of bulk at most 1048576: NARROWER than '..Said'. Prove '..Said' where nothing that the law and all that it calls make is longer than what came in: it says more and counts as full. Else prove '..UptoSaid'. A law counts once. -/
mutual
def uptoBulk {H : Type} : DataW H → Nat
  | .lit (.string bytes) => bytes.length + 1
  | .lit _ => 1
  | .nil => 1
  | .ptr d => uptoBulk d + 1
  | .slice elems spare => uptoBulkAll elems + uptoBulkAll spare + 1
  | .agg parts => uptoBulkAll parts + 1
  | .iface _ d => uptoBulk d + 1
  | .map entries => uptoBulkEntries entries + 1
  | .held _ => 1
def uptoBulkAll {H : Type} : List (DataW H) → Nat
  | [] => 0
  | d :: r => uptoBulk d + uptoBulkAll r
def uptoBulkEntries {H : Type} : List (Lit × DataW H) → Nat
  | [] => 0
  | x :: r => uptoBulkEntry x + uptoBulkEntries r
def uptoBulkEntry {H : Type} : Lit × DataW H → Nat
  | (.string bytes, d) => bytes.length + uptoBulk d + 1
  | (_, d) => uptoBulk d + 1
 end
def uptoSmall : (H : Type) → List (DataW H) → Bool := fun _ ds => decide (uptoBulkAll ds ≤ 1048576)
def OpenSpec.upto (s : _root_.Go.ChangeSpec) : _root_.Go.OpenSpec := { _root_.Go.OpenSpec.ofChange s with cond := some uptoSmall }

/-- 'spigotlaw40.CurveTells', WHERE WHAT IT READS IS OF BULK AT MOST 1048576: true; the input reads as it did. -/
def curveTellsUptoRow : OpenClaim := { program := "ytimhghmfhfggoaa", sum := "939fa57eae49f14f9c70debb365fb580d9933481f4016099eb508d9e223d5803", func := "spigot/spigotlaw40.CurveTells", spec := "curveTells", unfollowed := true, recurses := true, named := ["math/bits.divideError", "math/bits.overflowError"], plainKeys := false, apart := false, narrowed := true }
def CurveTellsUptoSaid : Prop := curveTellsUptoRow.holds Try.pinned (OpenSpec.upto curveTellsSpec)

/-- 'spigotlaw40.CurveBelow', WHERE WHAT IT READS IS OF BULK AT MOST 1048576: true; the input reads as it did. -/
def curveBelowUptoRow : OpenClaim := { program := "ytimhghmfhfggoaa", sum := "939fa57eae49f14f9c70debb365fb580d9933481f4016099eb508d9e223d5803", func := "spigot/spigotlaw40.CurveBelow", spec := "curveBelow", inPlace := ["math/bits.Add64"], unfollowed := true, recurses := true, named := ["math/bits.divideError", "math/bits.overflowError"], plainKeys := false, apart := false, narrowed := true }
def CurveBelowUptoSaid : Prop := curveBelowUptoRow.holds Try.pinned (OpenSpec.upto curveBelowSpec)

/-- 'spigotlaw40.CurveGrows', WHERE WHAT IT READS IS OF BULK AT MOST 1048576: true; the input reads as it did. -/
def curveGrowsUptoRow : OpenClaim := { program := "ytimhghmfhfggoaa", sum := "939fa57eae49f14f9c70debb365fb580d9933481f4016099eb508d9e223d5803", func := "spigot/spigotlaw40.CurveGrows", spec := "curveGrows", inPlace := ["math/bits.Add64"], unfollowed := true, recurses := true, named := ["math/bits.divideError", "math/bits.overflowError"], plainKeys := false, apart := false, narrowed := true }
def CurveGrowsUptoSaid : Prop := curveGrowsUptoRow.holds Try.pinned (OpenSpec.upto curveGrowsSpec)

/-- 'spigotlaw40.CurvePasses', WHERE WHAT IT READS IS OF BULK AT MOST 1048576: true; the input reads as it did. -/
def curvePassesUptoRow : OpenClaim := { program := "ytimhghmfhfggoaa", sum := "939fa57eae49f14f9c70debb365fb580d9933481f4016099eb508d9e223d5803", func := "spigot/spigotlaw40.CurvePasses", spec := "curvePasses", inPlace := ["math/bits.Add64"], unfollowed := true, recurses := true, named := ["math/bits.divideError", "math/bits.overflowError"], plainKeys := false, apart := false, narrowed := true }
def CurvePassesUptoSaid : Prop := curvePassesUptoRow.holds Try.pinned (OpenSpec.upto curvePassesSpec)

/-- 'spigotlaw40.CurveNames', WHERE WHAT IT READS IS OF BULK AT MOST 1048576: true; the input reads as it did. -/
def curveNamesUptoRow : OpenClaim := { program := "ytimhghmfhfggoaa", sum := "939fa57eae49f14f9c70debb365fb580d9933481f4016099eb508d9e223d5803", func := "spigot/spigotlaw40.CurveNames", spec := "curveNames", inPlace := ["math/bits.Add64"], unfollowed := true, recurses := true, named := ["math/bits.divideError", "math/bits.overflowError"], plainKeys := false, apart := false, narrowed := true }
def CurveNamesUptoSaid : Prop := curveNamesUptoRow.holds Try.pinned (OpenSpec.upto curveNamesSpec)

/-- 'spigotlaw40.CurveParts', WHERE WHAT IT READS IS OF BULK AT MOST 1048576: true; the input reads as it did. -/
def curvePartsUptoRow : OpenClaim := { program := "ytimhghmfhfggoaa", sum := "939fa57eae49f14f9c70debb365fb580d9933481f4016099eb508d9e223d5803", func := "spigot/spigotlaw40.CurveParts", spec := "curveParts", inPlace := ["math/bits.Add64"], unfollowed := true, recurses := true, named := ["math/bits.divideError", "math/bits.overflowError"], plainKeys := false, apart := false, narrowed := true }
def CurvePartsUptoSaid : Prop := curvePartsUptoRow.holds Try.pinned (OpenSpec.upto curvePartsSpec)

end Rows
end Go.Proofs.Ytimhghmfhfggoaa
