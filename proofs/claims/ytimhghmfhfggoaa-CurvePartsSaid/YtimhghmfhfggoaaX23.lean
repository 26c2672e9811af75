-- written by xprint.py, a program of this session over the kit's print
import Derived.Test.YtimhghmfhfggoaaX0
import Derived.Test.YtimhghmfhfggoaaX15
namespace Go.Proofs.Ytimhghmfhfggoaa.X
open Go.RowKit Go.Proofs.YtimhghmfhfggoaaW.PrintWords Go.Proofs.YtimhghmfhfggoaaW.PrintLast Go.Proofs.YtimhghmfhfggoaaW.PrintMore
attribute [local go_sem] max2_int min2_int max_two min_two max_three min_three max_four min_four   -- for this text's walks alone
set_option linter.unusedVariables false
set_option linter.unusedSimpArgs false

mutual
def spigotref40_first.l0 : Nat → List (S49) → List (S62) → Int → Option (Int × Int)
  | 0, _, _, _ => none
  | k + 1, x0, x1, x6 => if x6 < (x1.length : Int) then (spigotref40_first.l1 k x0 x1 x6 0 x6) else (some ((-1), (-1)))
def spigotref40_first.l1 : Nat → List (S49) → List (S62) → Int → Int → Int → Option (Int × Int)
  | 0, _, _, _, _, _ => none
  | k + 1, x0, x1, x6, x7, x8 => if x8 ≥ 0 then (if 0 ≤ x8 then (if x8 < (x1.length : Int) then (if 0 ≤ x6 then (if x6 < (x1.length : Int) then ((spigotref40_value.f k x0 (IntKind.u64.wrap (((rd_T62 x1 x6).f0) - ((rd_T62 x1 x8).f0)))).bind fun t191 => (if (wrap64 (x7 + ((rd_T62 x1 x8).f1))) > t191 then (some (x8, x6)) else (spigotref40_first.l1 k x0 x1 x6 (wrap64 (x7 + ((rd_T62 x1 x8).f1))) (wrap64 (x8 - 1))))) else (none)) else (none)) else (none)) else (none)) else (spigotref40_first.l0 k x0 x1 (wrap64 (x6 + 1)))
end
def spigotref40_first.f (k : Nat) (l0 : List (S49)) (l1 : List (S62)) : Option (Int × Int) := spigotref40_first.l0 k l0 l1 0
end Go.Proofs.Ytimhghmfhfggoaa.X
