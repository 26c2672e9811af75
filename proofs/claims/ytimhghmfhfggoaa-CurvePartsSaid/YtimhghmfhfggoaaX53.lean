-- written by xprint.py, a program of this session over the kit's print
import Derived.Test.YtimhghmfhfggoaaX0
import Derived.Test.YtimhghmfhfggoaaX21
namespace Go.Proofs.Ytimhghmfhfggoaa.X
open Go.RowKit Go.Proofs.YtimhghmfhfggoaaW.PrintWords Go.Proofs.YtimhghmfhfggoaaW.PrintLast Go.Proofs.YtimhghmfhfggoaaW.PrintMore
attribute [local go_sem] max2_int min2_int max_two min_two max_three min_three max_four min_four   -- for this text's walks alone
set_option linter.unusedVariables false
set_option linter.unusedSimpArgs false

mutual
def spigotref40_Join.l0 : Nat → List (S62) → List (S62) → List (S62) → Int → Int → Option ((List (S62)) × Int)
  | 0, _, _, _, _, _ => none
  | k + 1, x0, x1, x8, x9, x10 => if x10 < (x0.length : Int) then (spigotref40_Join.l1 k x0 x1 x8 x9 x10) else (if 0 ≤ x9 then (if x9 ≤ (x1.length : Int) then ((some (x1.drop (x9 : Int).toNat : List (S62))).bind fun y571 => (if x8.length + y571.length < 8796093022208 then (some ((x8 ++ y571), 0)) else (none))) else (none)) else (none))
def spigotref40_Join.l1 : Nat → List (S62) → List (S62) → List (S62) → Int → Int → Option ((List (S62)) × Int)
  | 0, _, _, _, _, _ => none
  | k + 1, x0, x1, x8, x9, x10 => if x9 < (x1.length : Int) then (if 0 ≤ x9 then (if 0 ≤ x10 then (if x10 < (x0.length : Int) then (if ((rd_T62 x1 x9).f0) < ((rd_T62 x0 x10).f0) then (if x8.length < 8796093022208 then (spigotref40_Join.l1 k x0 x1 (x8 ++ [(⟨(rd_T62 x1 x9).f0, (rd_T62 x1 x9).f1⟩ : S62)]) (wrap64 (x9 + 1)) x10) else (none)) else (if x8.length < 8796093022208 then (spigotref40_Join.l0 k x0 x1 (x8 ++ [(⟨(rd_T62 x0 x10).f0, (rd_T62 x0 x10).f1⟩ : S62)]) x9 (wrap64 (x10 + 1))) else (none))) else (none)) else (none)) else (none)) else (if 0 ≤ x10 then (if x10 < (x0.length : Int) then (if x8.length < 8796093022208 then (spigotref40_Join.l0 k x0 x1 (x8 ++ [(⟨(rd_T62 x0 x10).f0, (rd_T62 x0 x10).f1⟩ : S62)]) x9 (wrap64 (x10 + 1))) else (none)) else (none)) else (none))
end
def spigotref40_Join.f (k : Nat) (l0 : List (S62)) (l1 : List (S62)) : Option ((List (S62)) × Int) := (spigotref40_Charges.f k l0).bind fun t569 => (if t569 = 0 then ((spigotref40_Charges.f k l1).bind fun t570 => (if t570 = 0 then (if (wrap64 ((l0.length : Int) + (l1.length : Int))) > 60 then (some (([] : List (S62)), 4)) else (spigotref40_Join.l0 k l0 l1 ([] : List (S62)) 0 0)) else (some (([] : List (S62)), t570)))) else (some (([] : List (S62)), t569)))
end Go.Proofs.Ytimhghmfhfggoaa.X
