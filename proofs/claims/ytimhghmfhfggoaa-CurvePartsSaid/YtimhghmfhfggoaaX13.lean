-- written by xprint.py, a program of this session over the kit's print
import Derived.Test.YtimhghmfhfggoaaX0
import Derived.Test.YtimhghmfhfggoaaX12
namespace Go.Proofs.Ytimhghmfhfggoaa.X
open Go.RowKit Go.Proofs.YtimhghmfhfggoaaW.PrintWords Go.Proofs.YtimhghmfhfggoaaW.PrintLast Go.Proofs.YtimhghmfhfggoaaW.PrintMore
attribute [local go_sem] max2_int min2_int max_two min_two max_three min_three max_four min_four   -- for this text's walks alone
set_option linter.unusedVariables false
set_option linter.unusedSimpArgs false

mutual
def spigotref01_Div.l0 : Nat → Int → Int → Int → Int → Int → Int → Int → Int → Option (Int × Int × Int × Int)
  | 0, _, _, _, _, _, _, _, _ => none
  | k + 1, x1, x9, x151000, x151001, x153000, x153001, x154000, x154001 => if x9 ≥ 0 then (if 0 ≤ x9 then (if x9 > 63 then (if 0 ≤ (wrap64 (x9 - 64)) then (spigotref01_Div.j1 k x1 x9 (Go.bits .and .u64 (shr .u64 x151000 (wrap64 (x9 - 64))) 1) x151000 x151001 x153000 x153001 x154000 x154001) else (none)) else (spigotref01_Div.j1 k x1 x9 (Go.bits .and .u64 (shr .u64 x151001 x9) 1) x151000 x151001 x153000 x153001 x154000 x154001)) else (none)) else (some (x153000, x153001, x154001, 0))
def spigotref01_Div.j1 : Nat → Int → Int → Int → Int → Int → Int → Int → Int → Int → Option (Int × Int × Int × Int)
  | 0, _, _, _, _, _, _, _, _, _ => none
  | k + 1, x1, x9, x10, x151000, x151001, x153000, x153001, x154000, x154001 => (spigotref01_Cmp.f k (IntKind.u64.wrap ((IntKind.u64.wrap (x154000 * 2)) + (x154001 / 9223372036854775808))) (IntKind.u64.wrap ((IntKind.u64.wrap (x154001 * 2)) + x10)) 0 x1).bind fun t154 => (if t154 ≥ 0 then ((spigotref01_Less.f (IntKind.u64.wrap ((IntKind.u64.wrap (x154000 * 2)) + (x154001 / 9223372036854775808))) (IntKind.u64.wrap ((IntKind.u64.wrap (x154001 * 2)) + x10)) 0 x1).bind fun bt155 => (spigotref01_Div.l0 k x1 (wrap64 (x9 - 1)) x151000 x151001 (IntKind.u64.wrap ((IntKind.u64.wrap (x153000 * 2)) + (x153001 / 9223372036854775808))) (IntKind.u64.wrap ((IntKind.u64.wrap (x153001 * 2)) + 1)) bt155.1 bt155.2)) else (spigotref01_Div.l0 k x1 (wrap64 (x9 - 1)) x151000 x151001 (IntKind.u64.wrap ((IntKind.u64.wrap (x153000 * 2)) + (x153001 / 9223372036854775808))) (IntKind.u64.wrap (x153001 * 2)) (IntKind.u64.wrap ((IntKind.u64.wrap (x154000 * 2)) + (x154001 / 9223372036854775808))) (IntKind.u64.wrap ((IntKind.u64.wrap (x154001 * 2)) + x10))))
end
def spigotref01_Div.f (k : Nat) (a0_0 : Int) (a0_1 : Int) (a1 : Int) : Option (Int × Int × Int × Int) := if a1 = 0 then (some (0, 0, 0, 26)) else (spigotref01_Div.l0 k a1 127 a0_0 a0_1 0 0 0 0)
end Go.Proofs.Ytimhghmfhfggoaa.X
