/- plansAlive answers true: its calls are run on their closed inputs. No conditions. -/
import Derived.Test.YtefinjjcbpdljaaZTopEnd
import Derived.Test.YtefinjjcbpdljaaZTopD
namespace Go.Proofs.Ytefinjjcbpdljaa.PB
open Go.RowKit Go.Proofs.YtefinjjcbpdljaaW.PrintWords Go.Proofs.YtefinjjcbpdljaaW.PrintLast Go.Proofs.YtefinjjcbpdljaaW.PrintMore
theorem skiareatop_plansAlive.calls (r : Bool) (w : World) (h : skiareatop_plansAlive.f = some r) :
  Calls Try.prog 11 #[] w fun e w' => e = .returned (.bool r) ∧ Below w.heap.size w w' := by
 cases h
 exact alive_closed w
end Go.Proofs.Ytefinjjcbpdljaa.PB
