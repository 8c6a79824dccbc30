/- The plain laws of chapter 43: what the printed functions compute, over whole numbers and lists alone. No conditions beyond those that each theorem states. -/
import Derived.Test.YtefinjjcbpdljaaPureB
namespace Go.Proofs.Ytefinjjcbpdljaa.PB
open Go.RowKit Go.Proofs.YtefinjjcbpdljaaW.PrintWords Go.Proofs.YtefinjjcbpdljaaW.PrintLast Go.Proofs.YtefinjjcbpdljaaW.PrintMore
set_option linter.unusedVariables false
set_option linter.unusedSimpArgs false
theorem greatests (gs : List S42) (hs : List S39) (w : Int) (w1 : w ≤ 9223372036854775807) : ∃ k, skiarealaw43_SnowplanGreatest.f k gs hs w = some true := by
  refine Ev.rounds (g := fun k => skiarealaw43_SnowplanGreatest.f k gs hs w) ?_
  unfold skiarealaw43_SnowplanGreatest.f
  refine Ev.bind alive_ev ?_
  simp only [if_true]
  refine Ev.bind (accepted_ev gs hs) ?_
  by_cases q : rightS gs hs = 0
  · have I := in_of q
    simp only [beq_iff_eq, q, if_true]
    refine Ev.bind (greatest_ev I w w1) (Ev.bind (ref_greatest_ev I w w1) ?_)
    simpa using Ev.now true
  · simp only [beq_iff_eq, q, if_false]; exact Ev.now _
theorem greatests_row (gs : List S42) (hs : List S39) (w : Int) (_ : IntKind.i64.min ≤ w) (w1 : w ≤ IntKind.i64.max) : ∃ k, skiarealaw43_SnowplanGreatest.f k gs hs w = some true := greatests gs hs w (by rw [i64max] at w1; exact w1)
end Go.Proofs.Ytefinjjcbpdljaa.PB
