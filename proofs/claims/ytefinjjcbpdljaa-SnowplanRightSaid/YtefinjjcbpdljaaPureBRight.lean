/- The plain laws of chapter 43: what the printed functions compute, over whole numbers and lists alone. No conditions beyond those that each theorem states. -/
import Derived.Test.YtefinjjcbpdljaaPureB
namespace Go.Proofs.Ytefinjjcbpdljaa.PB
open Go.RowKit Go.Proofs.YtefinjjcbpdljaaW.PrintWords Go.Proofs.YtefinjjcbpdljaaW.PrintLast Go.Proofs.YtefinjjcbpdljaaW.PrintMore
set_option linter.unusedVariables false
set_option linter.unusedSimpArgs false
theorem rights (gs : List S42) (hs : List S39) : ∃ k, skiarealaw43_SnowplanRight.f k gs hs = some true := by
  refine Ev.rounds (g := fun k => skiarealaw43_SnowplanRight.f k gs hs) ?_
  unfold skiarealaw43_SnowplanRight.f
  refine Ev.bind alive_ev ?_
  simp only [if_true]
  by_cases q1 : (gs.length : Int) > 50
  · simp only [if_pos q1]; exact Ev.now _
  · simp only [if_neg q1]
    by_cases q2 : (hs.length : Int) > 50
    · simp only [if_pos q2]; exact Ev.now _
    · simp only [if_neg q2]
      refine Ev.bind (right_ev gs hs) (Ev.bind (ref_right_ev gs hs) ?_)
      simpa using Ev.now true
end Go.Proofs.Ytefinjjcbpdljaa.PB
