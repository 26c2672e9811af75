-- written by xprint.py, a program of this session over the kit's print
import Derived.Test.YtimhghmfhfggoaaX0
import Derived.Test.YtimhghmfhfggoaaX13
import Derived.Test.YtimhghmfhfggoaaX14
namespace Go.Proofs.Ytimhghmfhfggoaa.X
open Go.RowKit Go.Proofs.YtimhghmfhfggoaaW.PrintWords Go.Proofs.YtimhghmfhfggoaaW.PrintLast Go.Proofs.YtimhghmfhfggoaaW.PrintMore
attribute [local go_sem] max2_int min2_int max_two min_two max_three min_three max_four min_four   -- for this text's walks alone
set_option linter.unusedVariables false
set_option linter.unusedSimpArgs false

def spigotref40_value.l0 : Nat → List (S49) → Int → Int → Int → Option (Int)
  | 0, _, _, _, _ => none
  | k + 1, x0, x1, x5, x6 => if x6 < (x0.length : Int) then (if 0 ≤ x6 then ((spigotref01_Mul.f x1 (IntKind.u64.wrap ((rd_T49 x0 x6).f1))).bind fun bt159 => ((spigotref01_Div.f k bt159.1 bt159.2 (IntKind.u64.wrap ((rd_T49 x0 x6).f2))).bind fun bt162 => (if bt162.1 = 0 then (if bt162.2.1 < 1000000000000 then (spigotref40_value.l0 k x0 x1 (mn x5 (wrap64 (((rd_T49 x0 x6).f0) + (wrap64 (bt162.2.1))))) (wrap64 (x6 + 1))) else (spigotref40_value.l0 k x0 x1 x5 (wrap64 (x6 + 1)))) else (spigotref40_value.l0 k x0 x1 x5 (wrap64 (x6 + 1)))))) else (none)) else (some x5)
def spigotref40_value.f (k : Nat) (l0 : List (S49)) (a1 : Int) : Option (Int) := spigotref40_value.l0 k l0 a1 1000000000000 0
end Go.Proofs.Ytimhghmfhfggoaa.X
