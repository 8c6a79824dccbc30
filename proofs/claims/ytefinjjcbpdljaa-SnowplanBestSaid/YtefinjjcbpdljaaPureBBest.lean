/- The plain laws of chapter 43: what the printed functions compute, over whole numbers and lists alone. No conditions beyond those that each theorem states. -/
import Derived.Test.YtefinjjcbpdljaaPureB
namespace Go.Proofs.Ytefinjjcbpdljaa.PB
open Go.RowKit Go.Proofs.YtefinjjcbpdljaaW.PrintWords Go.Proofs.YtefinjjcbpdljaaW.PrintLast Go.Proofs.YtefinjjcbpdljaaW.PrintMore
set_option linter.unusedVariables false
set_option linter.unusedSimpArgs false
theorem best_law (gs : List S42) (hs : List S39) (w : Int) (ps : List (List Int)) (w1 : w ≤ 9223372036854775807) : ∃ k, skiarealaw43_SnowplanBest.f k gs hs w ps = some true := by
  refine Ev.rounds (g := fun k => skiarealaw43_SnowplanBest.f k gs hs w ps) ?_
  unfold skiarealaw43_SnowplanBest.f
  refine Ev.bind alive_ev ?_
  simp only [if_true]
  have out : Ev (fun k => skiarealaw43_SnowplanBest.j0 k gs hs w ps true) true := Ev.step (f := fun _ => some true) (fun k => by simp only [skiarealaw43_SnowplanBest.j0, if_true]) (Ev.now _)
  by_cases q1 : (gs.length : Int) > 5
  · simp only [if_pos q1]; exact out
  simp only [if_neg q1]
  by_cases q2 : (hs.length : Int) > 3
  · simp only [if_pos q2]; exact out
  simp only [if_neg q2]
  refine Ev.bind (right_ev gs hs) ?_
  by_cases q : rightS gs hs = 0
  · have I := in_of q
    simp only [q, if_true]
    refine Ev.bind (small_ev ps) ?_
    cases hq : smallB ps with
    | false => simp only [Bool.false_eq_true, if_false]; exact out
    | true =>
      simp only [if_true]
      have hp := small_of hq
      by_cases qw : w < 0
      · rw [decide_eq_true qw]; exact out
      · rw [decide_eq_false qw]
        obtain ⟨b1, b2, b3⟩ := best_facts I w (by omega)
        have tail : Ev (fun k => skiarealaw43_SnowplanBest.j1 k gs hs w ps (grS gs hs w) (grS gs hs w != grS gs hs w)) true := by
          refine Ev.step (f := fun k => (snowplan_Worth.f k gs hs ps).bind fun a => if a.2.2 = true then (snowplan_Valid.f k gs hs w ps).bind fun t => if t = true then some (decide (a.1 ≤ grS gs hs w)) else some true else some true) (fun k => by simp only [skiarealaw43_SnowplanBest.j1, bne_self_eq_false, Bool.false_eq_true, if_false]) ?_
          refine Ev.bind (worth_ev I ps hp) ?_
          unfold worthS
          by_cases qa : AllAsc gs.length hs ps
          · rw [if_pos qa]
            simp only [if_true]
            refine Ev.bind (valid_ev I w ps hp) ?_
            cases hv : validS gs hs w ps with
            | false => simp only [Bool.false_eq_true, if_false]; exact Ev.now _
            | true =>
              simp only [if_true]
              unfold validS at hv
              simp only [Bool.and_eq_true, decide_eq_true_eq] at hv
              have hf := ((feas_iff gs I.g5 I.gr hs w ps I.hr (by omega)).1).2 ⟨hv.1.1, hv.1.2, hv.2⟩
              have := (sch_spec gs I.g5 I.gr hs w I.hr (by omega)).2.2.2.2.2.2 ps hf
              rw [decide_eq_true (by unfold grS; rw [if_neg (by omega)]; exact this)]; exact Ev.now _
          · rw [if_neg qa]
            simp only [Bool.false_eq_true, if_false]; exact Ev.now _
        refine Ev.step (f := fun k => (snowplan_Best.f k gs hs w).bind fun t => (snowplan_Worth.f k gs hs t).bind fun a => if a.2.2 = true then (snowplan_Valid.f k gs hs w t).bind fun u => if u = true then (snowplan_Greatest.f k gs hs w).bind fun g => skiarealaw43_SnowplanBest.j1 k gs hs w ps a.1 (a.1 != g) else skiarealaw43_SnowplanBest.j1 k gs hs w ps a.1 true else skiarealaw43_SnowplanBest.j1 k gs hs w ps a.1 true) (fun k => by simp only [skiarealaw43_SnowplanBest.j0, Bool.false_eq_true, if_false]) ?_
        refine Ev.bind (best_ev I w w1) (Ev.bind (worth_ev I _ b1) ?_)
        rw [b2]
        simp only [if_true]
        refine Ev.bind (valid_ev I w _ b1) ?_
        rw [b3]
        simp only [if_true]
        exact Ev.bind (greatest_ev I w w1) tail
  · simp only [q, if_false]; exact out
theorem best_row (gs : List S42) (hs : List S39) (w : Int) (ps : List (List Int)) (_ : IntKind.i64.min ≤ w) (w1 : w ≤ IntKind.i64.max) : ∃ k, skiarealaw43_SnowplanBest.f k gs hs w ps = some true := best_law gs hs w ps (by rw [i64max] at w1; exact w1)
end Go.Proofs.Ytefinjjcbpdljaa.PB
