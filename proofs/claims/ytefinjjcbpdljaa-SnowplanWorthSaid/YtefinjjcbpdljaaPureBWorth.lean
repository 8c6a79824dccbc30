/- The plain laws of chapter 43: what the printed functions compute, over whole numbers and lists alone. No conditions beyond those that each theorem states. -/
import Derived.Test.YtefinjjcbpdljaaPureB
namespace Go.Proofs.Ytefinjjcbpdljaa.PB
open Go.RowKit Go.Proofs.YtefinjjcbpdljaaW.PrintWords Go.Proofs.YtefinjjcbpdljaaW.PrintLast Go.Proofs.YtefinjjcbpdljaaW.PrintMore
set_option linter.unusedVariables false
set_option linter.unusedSimpArgs false
theorem worths (gs : List S42) (hs : List S39) (w : Int) (ps : List (List Int)) : ∃ k, skiarealaw43_SnowplanWorth.f k gs hs w ps = some true := by
  refine Ev.rounds (g := fun k => skiarealaw43_SnowplanWorth.f k gs hs w ps) ?_
  unfold skiarealaw43_SnowplanWorth.f
  refine Ev.bind alive_ev ?_
  simp only [if_true]
  refine Ev.bind (accepted_ev gs hs) ?_
  by_cases q : rightS gs hs = 0
  · have I := in_of q
    simp only [beq_iff_eq, q, if_true]
    refine Ev.bind (small_ev ps) ?_
    cases hq : smallB ps with
    | false => exact Ev.step (f := fun _ => some true) (fun k => by simp only [skiarealaw43_SnowplanWorth.j0, Bool.not_false, if_true]) (Ev.now _)
    | true =>
      have hp := small_of hq
      refine Ev.step (f := fun k => (snowplan_Worth.f k gs hs ps).bind fun a => (skiarearef43_Worth.f k gs hs ps).bind fun b => if a.1 = b.1 then (if a.2.1 = b.2.1 then (if (a.2.2 == b.2.2) = true then (snowplan_Valid.f k gs hs w ps).bind fun c => (skiarearef43_Valid.f k gs hs w ps).bind fun e => some (c == e) else none) else none) else none) (fun k => by simp only [skiarealaw43_SnowplanWorth.j0, Bool.not_true, Bool.false_eq_true, if_false]) ?_
      refine Ev.bind (worth_ev I ps hp) (Ev.bind (ref_worth_ev I ps hp) ?_)
      simp only [beq_self_eq_true, if_true]
      refine Ev.bind (valid_ev I w ps hp) (Ev.bind (ref_valid_ev I w ps hp) ?_)
      simpa using Ev.now true
  · simp only [beq_iff_eq, q, if_false]
    exact Ev.step (f := fun _ => some true) (fun k => by simp only [skiarealaw43_SnowplanWorth.j0, if_true]) (Ev.now _)
end Go.Proofs.Ytefinjjcbpdljaa.PB
