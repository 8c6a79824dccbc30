-- Written by a program of this session over the translation (wip/top/mktop.py). Not trusted: Lean checks it.
import Derived.Test.YtefinjjcbpdljaaZPPxD
namespace Go.Proofs.Ytefinjjcbpdljaa.PB
open Go.RowKit Go.Proofs.YtefinjjcbpdljaaW.PrintWords Go.Proofs.YtefinjjcbpdljaaW.PrintLast Go.Proofs.YtefinjjcbpdljaaW.PrintMore
set_option linter.unusedVariables false
set_option linter.unusedSimpArgs false
def skiareatop_plansAlive.f : Option Bool := some true
mutual
def skiareatop_TopSnow.j0 : Nat → List (S42) → List (S39) → Int → List (List Int) → Bool → Option (Bool)
  | 0, _, _, _, _, _ => none
  | k + 1, x0, x1, x2, x3, x46 => if x46 = true then (some true) else (skiareatop_TopSnow.l0 k x0 x1 x2 x3 0)
def skiareatop_TopSnow.l0 : Nat → List (S42) → List (S39) → Int → List (List Int) → Int → Option (Bool)
  | 0, _, _, _, _, _ => none
  | k + 1, x0, x1, x2, x3, x9 => if x9 < (x3.length : Int) then (if 0 ≤ x9 then (if ((rd_L3 x3 x9).length : Int) > 20 then (some true) else (skiareatop_TopSnow.l0 k x0 x1 x2 x3 (wrap64 (x9 + 1)))) else (none)) else ((snowplan_Greatest.f k x0 x1 x2).bind fun t238 => ((snowplan_Best.f k x0 x1 x2).bind fun t239 => ((snowplan_Worth.f k x0 x1 t239).bind fun bt242 => (if bt242.2.2 = true then (if bt242.1 = t238 then (if bt242.2.1 > x2 then (skiareatop_TopSnow.j2 k x0 x1 x2 x3 t238 true) else ((snowplan_Valid.f k x0 x1 x2 t239).bind fun t245 => (if t245 = true then ((snowplan_Greatest.f k x0 x1 (wrap64 (x2 + 1))).bind fun t246 => (skiareatop_TopSnow.j2 k x0 x1 x2 x3 t238 (decide (t246 < t238)))) else (skiareatop_TopSnow.j2 k x0 x1 x2 x3 t238 true)))) else (skiareatop_TopSnow.j2 k x0 x1 x2 x3 t238 true)) else (skiareatop_TopSnow.j2 k x0 x1 x2 x3 t238 true)))))
def skiareatop_TopSnow.j2 : Nat → List (S42) → List (S39) → Int → List (List Int) → Int → Bool → Option (Bool)
  | 0, _, _, _, _, _, _ => none
  | k + 1, x0, x1, x2, x3, x10, x103 => if x103 = true then (none) else ((snowplan_Worth.f k x0 x1 x3).bind fun bt247 => ((snowplan_Valid.f k x0 x1 x2 x3).bind fun t250 => (if t250 = true then (some (decide (bt247.1 ≤ x10))) else (some true))))
end
def skiareatop_TopSnow.f (k : Nat) (l0 : List (S42)) (l1 : List (S39)) (a2 : Int) (l3 : List (List Int)) : Option (Bool) := (skiareatop_plansAlive.f).bind fun t235 => (if t235 = true then (if (l0.length : Int) > 5 then (skiareatop_TopSnow.j0 k l0 l1 a2 l3 true) else (if (l1.length : Int) > 3 then (skiareatop_TopSnow.j0 k l0 l1 a2 l3 true) else (if (l3.length : Int) > 10 then (skiareatop_TopSnow.j0 k l0 l1 a2 l3 true) else ((skiarearef43_Right.f k l0 l1).bind fun t236 => (if t236 = 0 then (if a2 < 0 then (skiareatop_TopSnow.j0 k l0 l1 a2 l3 true) else (skiareatop_TopSnow.j0 k l0 l1 a2 l3 (decide (a2 > 1099511627776)))) else (skiareatop_TopSnow.j0 k l0 l1 a2 l3 true)))))) else (none))
end Go.Proofs.Ytefinjjcbpdljaa.PB
