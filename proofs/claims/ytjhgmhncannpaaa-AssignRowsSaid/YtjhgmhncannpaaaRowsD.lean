-- AssignRows: printed by a program of this session over a translation with one store left out, and turned back (wip/c08/mkrows.py). Not trusted: Lean checks it.
import Derived.Test.YtjhgmhncannpaaaPPxD
namespace Go.Proofs.Ytjhgmhncannpaaa.PP
open Go.RowKit Go.Proofs.YtjhgmhncannpaaaW.PrintWords Go.Proofs.YtjhgmhncannpaaaW.PrintLast Go.Proofs.YtjhgmhncannpaaaW.PrintMore
set_option linter.unusedVariables false
set_option linter.unusedSimpArgs false
mutual
def skiarealaw08_AssignRows.j0 : Nat → List (List Int) → Int → Int → Bool → Option (Bool)
  | 0, _, _, _, _ => none
  | k + 1, x0, x1, x2, x47 => if x47 = true then (some true) else (if ([] : List (List Int)).length + x0.length < 5864062014805 then ((some (([] : List (List Int)) ++ x0 : List (List Int))).bind fun y245 => (if 0 ≤ x2 then (if x2 < (x0.length : Int) then (if 0 ≤ x1 then (if x1 < (x0.length : Int) then (if x1 < (y245.length : Int) then ((assign_Best.f k x0).bind fun bt251 => ((assign_Best.f k ((y245.set (x1 : Int).toNat (rd_L1 x0 x2)).set (x2 : Int).toNat (rd_L1 x0 x1))).bind fun bt256 => (skiarealaw08_AssignRows.l0 k x0 x1 bt251.2.1 bt251.2.2 bt256.2.1 bt256.2.2 ([] : List (List Int)) ([] : List (List Int)) 0))) else (none)) else (none)) else (none)) else (none)) else (none))) else (none))
def skiarealaw08_AssignRows.l0 : Nat → List (List Int) → Int → Int → Int → Int → Int → List (List Int) → List (List Int) → Int → Option (Bool)
  | 0, _, _, _, _, _, _, _, _, _ => none
  | k + 1, x0, x1, x9, x10, x12, x13, x14, x15, x16 => if x16 < (x0.length : Int) then (if x16 = x1 then (if 0 ≤ x16 then (if 0 ≤ ((rd_L1 x0 x16).length : Int) then (if (((rd_L1 x0 x16).length : Int) : Int).toNat ≤ 35184372088832 then (if x14.length < 5864062014805 then (skiarealaw08_AssignRows.l0 k x0 x1 x9 x10 x12 x13 (x14 ++ [(List.replicate (((rd_L1 x0 x16).length : Int) : Int).toNat 0)]) x15 (wrap64 (x16 + 1))) else (none)) else (none)) else (none)) else (none)) else (if 0 ≤ x16 then (if x14.length < 5864062014805 then (if x15.length < 5864062014805 then (skiarealaw08_AssignRows.l0 k x0 x1 x9 x10 x12 x13 (x14 ++ [rd_L1 x0 x16]) (x15 ++ [rd_L1 x0 x16]) (wrap64 (x16 + 1))) else (none)) else (none)) else (none))) else ((assign_Best.f k x14).bind fun bt276 => ((assign_Best.f k x15).bind fun bt281 => (if x10 = 0 then (if x13 = 0 then (if bt276.2.2 = 0 then (if bt281.2.2 = 0 then (if x9 = x12 then (if bt276.2.1 = bt281.2.1 then (some (decide (bt276.2.1 ≤ x9))) else (none)) else (none)) else (none)) else (none)) else (none)) else (none))))
end
def skiarealaw08_AssignRows.f (k : Nat) (l0 : List (List Int)) (a1 : Int) (a2 : Int) : Option (Bool) := (skiarealaw08_alive.f k).bind fun t243 => (if t243 = true then ((skiarealaw08_right.f k l0).bind fun t244 => (if t244 = true then (if a1 < 0 then (skiarealaw08_AssignRows.j0 k l0 a1 a2 true) else (if a1 ≥ (l0.length : Int) then (skiarealaw08_AssignRows.j0 k l0 a1 a2 true) else (if a2 < 0 then (skiarealaw08_AssignRows.j0 k l0 a1 a2 true) else (skiarealaw08_AssignRows.j0 k l0 a1 a2 (decide (a2 ≥ (l0.length : Int))))))) else (skiarealaw08_AssignRows.j0 k l0 a1 a2 true))) else (none))
end Go.Proofs.Ytjhgmhncannpaaa.PP
