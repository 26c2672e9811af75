/-
  No cell of these rows narrows 'for every input' (looked for: loops, veiled, ifaces, maps, wideKeys, modest, calm, conditions, laid).
  DERIVED. THE GIVEN ROWS OF THIS SEAT. 6 by the template 'for every input the law returns true; each argument reads behind the call as it read before'; 0 by the template 'total and deterministic' (their statements: YtjjmnafhaneflaaTotals.lean).
  GIVEN WITH THE SEED: the statements are not yours to turn. If you find one false, say at which input.
  Laid BY PROGRAM, IN A SANDBOX (cutbox-rows.mjs): the forced cells as the released guide's own fill.sh prints them over the translation a071b314bd6148bb… (all of the seat's roots in one cut). By AI agents, Wed Nov 11 2026. No macro, syntax, notation, axiom, sorry.
-/
import Derived.Test.YtjjmnafhaneflaaChecked
import GoSem.Claim
import GoSem.ClaimJoined
import GoSem.ClaimMapViews
import Derived.JoinedTies
import Derived.KernelRfl
namespace Go.Proofs.Ytjjmnafhaneflaa
/- THE CELL 'sum', in the pinned program and in every row, IS THE sha256 OF THE DUMP (.gsa) THAT YtjjmnafhaneflaaProg.lean LOADS. Nothing in Lean hashes anything: it is a label: what it is worth is what the hold of that sum in a sandbox is worth. -/
noncomputable def Try.pinned : Pinned := { name := "ytjjmnafhaneflaa", sum := "a071b314bd6148bb037ad0de295b5c342ed838e389c0527e0ab38ef1afba7b45", checked := Try.checked }
namespace Rows
def none {H : Type} : Left H := { results := [], args := [] }

/-- 'spigotlaw38.WindowCounts': WHATEVER THE INPUT: true; the input reads as it did. -/
def windowCountsSpec : ChangeSpec := { name := "windowCounts", fn := fun _ => fun
  | [d1, d2] => { results := [.lit (.bool true)], args := [d1, d2] }
  | _ => none }
def windowCountsRow : OpenClaim := { program := "ytjjmnafhaneflaa", sum := "a071b314bd6148bb037ad0de295b5c342ed838e389c0527e0ab38ef1afba7b45", func := "spigot/spigotlaw38.WindowCounts", spec := "windowCounts", unfollowed := true, recurses := true, apart := false }
def WindowCountsSaid : Prop := windowCountsRow.holds Try.pinned (OpenSpec.ofChange windowCountsSpec)

/-- ITS FALSE NEIGHBOUR: 'it returns false'. Refute it at one input. -/
def windowCountsWrong : ChangeSpec := { name := "windowCounts", fn := fun _ => fun
  | [d1, d2] => { results := [.lit (.bool false)], args := [d1, d2] }
  | _ => none }
def WindowCountsWrongFalsely : Prop := windowCountsRow.holds Try.pinned (OpenSpec.ofChange windowCountsWrong)

/-- 'spigotlaw38.WindowAdmits': WHATEVER THE INPUT: true; the input reads as it did. -/
def windowAdmitsSpec : ChangeSpec := { name := "windowAdmits", fn := fun _ => fun
  | [d1, d2] => { results := [.lit (.bool true)], args := [d1, d2] }
  | _ => none }
def windowAdmitsRow : OpenClaim := { program := "ytjjmnafhaneflaa", sum := "a071b314bd6148bb037ad0de295b5c342ed838e389c0527e0ab38ef1afba7b45", func := "spigot/spigotlaw38.WindowAdmits", spec := "windowAdmits", unfollowed := true, recurses := true, apart := false }
def WindowAdmitsSaid : Prop := windowAdmitsRow.holds Try.pinned (OpenSpec.ofChange windowAdmitsSpec)

/-- ITS FALSE NEIGHBOUR: 'it returns false'. Refute it at one input. -/
def windowAdmitsWrong : ChangeSpec := { name := "windowAdmits", fn := fun _ => fun
  | [d1, d2] => { results := [.lit (.bool false)], args := [d1, d2] }
  | _ => none }
def WindowAdmitsWrongFalsely : Prop := windowAdmitsRow.holds Try.pinned (OpenSpec.ofChange windowAdmitsWrong)

/-- 'spigotlaw38.WindowSlides': WHATEVER THE INPUT: true; the input reads as it did. -/
def windowSlidesSpec : ChangeSpec := { name := "windowSlides", fn := fun _ => fun
  | [d1, d2] => { results := [.lit (.bool true)], args := [d1, d2] }
  | _ => none }
def windowSlidesRow : OpenClaim := { program := "ytjjmnafhaneflaa", sum := "a071b314bd6148bb037ad0de295b5c342ed838e389c0527e0ab38ef1afba7b45", func := "spigot/spigotlaw38.WindowSlides", spec := "windowSlides", unfollowed := true, recurses := true, apart := false }
def WindowSlidesSaid : Prop := windowSlidesRow.holds Try.pinned (OpenSpec.ofChange windowSlidesSpec)

/-- ITS FALSE NEIGHBOUR: 'it returns false'. Refute it at one input. -/
def windowSlidesWrong : ChangeSpec := { name := "windowSlides", fn := fun _ => fun
  | [d1, d2] => { results := [.lit (.bool false)], args := [d1, d2] }
  | _ => none }
def WindowSlidesWrongFalsely : Prop := windowSlidesRow.holds Try.pinned (OpenSpec.ofChange windowSlidesWrong)

/-- 'spigotlaw38.WindowFixed': WHATEVER THE INPUT: true; the input reads as it did. -/
def windowFixedSpec : ChangeSpec := { name := "windowFixed", fn := fun _ => fun
  | [d1, d2] => { results := [.lit (.bool true)], args := [d1, d2] }
  | _ => none }
def windowFixedRow : OpenClaim := { program := "ytjjmnafhaneflaa", sum := "a071b314bd6148bb037ad0de295b5c342ed838e389c0527e0ab38ef1afba7b45", func := "spigot/spigotlaw38.WindowFixed", spec := "windowFixed", unfollowed := true, recurses := true, apart := false }
def WindowFixedSaid : Prop := windowFixedRow.holds Try.pinned (OpenSpec.ofChange windowFixedSpec)

/-- ITS FALSE NEIGHBOUR: 'it returns false'. Refute it at one input. -/
def windowFixedWrong : ChangeSpec := { name := "windowFixed", fn := fun _ => fun
  | [d1, d2] => { results := [.lit (.bool false)], args := [d1, d2] }
  | _ => none }
def WindowFixedWrongFalsely : Prop := windowFixedRow.holds Try.pinned (OpenSpec.ofChange windowFixedWrong)

/-- 'spigotlaw38.WindowNames': WHATEVER THE INPUT: true; the input reads as it did. -/
def windowNamesSpec : ChangeSpec := { name := "windowNames", fn := fun _ => fun
  | [] => { results := [.lit (.bool true)], args := [] }
  | _ => none }
def windowNamesRow : OpenClaim := { program := "ytjjmnafhaneflaa", sum := "a071b314bd6148bb037ad0de295b5c342ed838e389c0527e0ab38ef1afba7b45", func := "spigot/spigotlaw38.WindowNames", spec := "windowNames", unfollowed := true, recurses := true, apart := false }
def WindowNamesSaid : Prop := windowNamesRow.holds Try.pinned (OpenSpec.ofChange windowNamesSpec)

/-- ITS FALSE NEIGHBOUR: 'it returns false'. Refute it at one input. -/
def windowNamesWrong : ChangeSpec := { name := "windowNames", fn := fun _ => fun
  | [] => { results := [.lit (.bool false)], args := [] }
  | _ => none }
def WindowNamesWrongFalsely : Prop := windowNamesRow.holds Try.pinned (OpenSpec.ofChange windowNamesWrong)

/-- 'spigotlaw38.WindowBucket': WHATEVER THE INPUT: true; the input reads as it did. -/
def windowBucketSpec : ChangeSpec := { name := "windowBucket", fn := fun _ => fun
  | [d1, d2] => { results := [.lit (.bool true)], args := [d1, d2] }
  | _ => none }
def windowBucketRow : OpenClaim := { program := "ytjjmnafhaneflaa", sum := "a071b314bd6148bb037ad0de295b5c342ed838e389c0527e0ab38ef1afba7b45", func := "spigot/spigotlaw38.WindowBucket", spec := "windowBucket", inPlace := ["math/bits.Add64"], unfollowed := true, recurses := true, named := ["math/bits.divideError", "math/bits.overflowError"], apart := false }
def WindowBucketSaid : Prop := windowBucketRow.holds Try.pinned (OpenSpec.ofChange windowBucketSpec)

/-- ITS FALSE NEIGHBOUR: 'it returns false'. Refute it at one input. -/
def windowBucketWrong : ChangeSpec := { name := "windowBucket", fn := fun _ => fun
  | [d1, d2] => { results := [.lit (.bool false)], args := [d1, d2] }
  | _ => none }
def WindowBucketWrongFalsely : Prop := windowBucketRow.holds Try.pinned (OpenSpec.ofChange windowBucketWrong)

/- THE SECOND FORM. 'bulk': how many values and letters a reading holds, each counted each time it is reached (what is shared counts as often as it is met; a slice's spare places count too). A statement '..UptoSaid' is the law's where the arguments, and the package variables that the reading takes, are together of bulk at most 1048576: NARROWER than '..Said'. Prove '..Said' where nothing that the law and all that it calls make is longer than what came in: it says more and counts as full. Else prove '..UptoSaid'. A law counts once. -/
mutual
def uptoBulk {H : Type} : DataW H → Nat
  | .lit (.string bytes) => bytes.length + 1
  | .lit _ => 1
  | .nil => 1
  | .ptr d => uptoBulk d + 1
  | .slice elems spare => uptoBulkAll elems + uptoBulkAll spare + 1
  | .agg parts => uptoBulkAll parts + 1
  | .iface _ d => uptoBulk d + 1
  | .map entries => uptoBulkEntries entries + 1
  | .held _ => 1
def uptoBulkAll {H : Type} : List (DataW H) → Nat
  | [] => 0
  | d :: r => uptoBulk d + uptoBulkAll r
def uptoBulkEntries {H : Type} : List (Lit × DataW H) → Nat
  | [] => 0
  | x :: r => uptoBulkEntry x + uptoBulkEntries r
def uptoBulkEntry {H : Type} : Lit × DataW H → Nat
  | (.string bytes, d) => bytes.length + uptoBulk d + 1
  | (_, d) => uptoBulk d + 1
 end
def uptoSmall : (H : Type) → List (DataW H) → Bool := fun _ ds => decide (uptoBulkAll ds ≤ 1048576)
def OpenSpec.upto (s : _root_.Go.ChangeSpec) : _root_.Go.OpenSpec := { _root_.Go.OpenSpec.ofChange s with cond := some uptoSmall }

/-- 'spigotlaw38.WindowCounts', WHERE WHAT IT READS IS OF BULK AT MOST 1048576: true; the input reads as it did. -/
def windowCountsUptoRow : OpenClaim := { program := "ytjjmnafhaneflaa", sum := "a071b314bd6148bb037ad0de295b5c342ed838e389c0527e0ab38ef1afba7b45", func := "spigot/spigotlaw38.WindowCounts", spec := "windowCounts", unfollowed := true, recurses := true, apart := false, narrowed := true }
def WindowCountsUptoSaid : Prop := windowCountsUptoRow.holds Try.pinned (OpenSpec.upto windowCountsSpec)

/-- 'spigotlaw38.WindowAdmits', WHERE WHAT IT READS IS OF BULK AT MOST 1048576: true; the input reads as it did. -/
def windowAdmitsUptoRow : OpenClaim := { program := "ytjjmnafhaneflaa", sum := "a071b314bd6148bb037ad0de295b5c342ed838e389c0527e0ab38ef1afba7b45", func := "spigot/spigotlaw38.WindowAdmits", spec := "windowAdmits", unfollowed := true, recurses := true, apart := false, narrowed := true }
def WindowAdmitsUptoSaid : Prop := windowAdmitsUptoRow.holds Try.pinned (OpenSpec.upto windowAdmitsSpec)

/-- 'spigotlaw38.WindowSlides', WHERE WHAT IT READS IS OF BULK AT MOST 1048576: true; the input reads as it did. -/
def windowSlidesUptoRow : OpenClaim := { program := "ytjjmnafhaneflaa", sum := "a071b314bd6148bb037ad0de295b5c342ed838e389c0527e0ab38ef1afba7b45", func := "spigot/spigotlaw38.WindowSlides", spec := "windowSlides", unfollowed := true, recurses := true, apart := false, narrowed := true }
def WindowSlidesUptoSaid : Prop := windowSlidesUptoRow.holds Try.pinned (OpenSpec.upto windowSlidesSpec)

/-- 'spigotlaw38.WindowFixed', WHERE WHAT IT READS IS OF BULK AT MOST 1048576: true; the input reads as it did. -/
def windowFixedUptoRow : OpenClaim := { program := "ytjjmnafhaneflaa", sum := "a071b314bd6148bb037ad0de295b5c342ed838e389c0527e0ab38ef1afba7b45", func := "spigot/spigotlaw38.WindowFixed", spec := "windowFixed", unfollowed := true, recurses := true, apart := false, narrowed := true }
def WindowFixedUptoSaid : Prop := windowFixedUptoRow.holds Try.pinned (OpenSpec.upto windowFixedSpec)

/-- 'spigotlaw38.WindowNames', WHERE WHAT IT READS IS OF BULK AT MOST 1048576: true; the input reads as it did. -/
def windowNamesUptoRow : OpenClaim := { program := "ytjjmnafhaneflaa", sum := "a071b314bd6148bb037ad0de295b5c342ed838e389c0527e0ab38ef1afba7b45", func := "spigot/spigotlaw38.WindowNames", spec := "windowNames", unfollowed := true, recurses := true, apart := false, narrowed := true }
def WindowNamesUptoSaid : Prop := windowNamesUptoRow.holds Try.pinned (OpenSpec.upto windowNamesSpec)

/-- 'spigotlaw38.WindowBucket', WHERE WHAT IT READS IS OF BULK AT MOST 1048576: true; the input reads as it did. -/
def windowBucketUptoRow : OpenClaim := { program := "ytjjmnafhaneflaa", sum := "a071b314bd6148bb037ad0de295b5c342ed838e389c0527e0ab38ef1afba7b45", func := "spigot/spigotlaw38.WindowBucket", spec := "windowBucket", inPlace := ["math/bits.Add64"], unfollowed := true, recurses := true, named := ["math/bits.divideError", "math/bits.overflowError"], apart := false, narrowed := true }
def WindowBucketUptoSaid : Prop := windowBucketUptoRow.holds Try.pinned (OpenSpec.upto windowBucketSpec)

end Rows
end Go.Proofs.Ytjjmnafhaneflaa
