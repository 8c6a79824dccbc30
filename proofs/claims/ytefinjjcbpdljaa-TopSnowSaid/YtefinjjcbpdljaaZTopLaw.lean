/- The plain law of TopSnow: what its walk computes, over whole numbers and lists alone. No conditions. -/
import Derived.Test.YtefinjjcbpdljaaZPureB
import Derived.Test.YtefinjjcbpdljaaZTopD
namespace Go.Proofs.Ytefinjjcbpdljaa.PB
open Go.RowKit Go.Proofs.YtefinjjcbpdljaaW.PrintWords Go.Proofs.YtefinjjcbpdljaaW.PrintLast Go.Proofs.YtefinjjcbpdljaaW.PrintMore
set_option linter.unusedVariables false
set_option linter.unusedSimpArgs false
theorem top_loop (gs : List S42) (hs : List S39) (w : Int) (o : List (List Int)) (ho : o.length ≤ 10) {r : Bool} (hr : (∀ p ∈ o, p.length ≤ 20) → Ev (fun k => skiareatop_TopSnow.l0 k gs hs w o (o.length : Int)) r) (hr2 : r = true) :
    ∀ d i, i + d = o.length → (∀ j, j < i → (o.getD j []).length ≤ 20) → Ev (fun k => skiareatop_TopSnow.l0 k gs hs w o (i : Int)) r := by
  intro d
  induction d with
  | zero =>
    intro i hi hp
    have e : i = o.length := by omega
    subst e
    refine hr (fun p h => ?_)
    obtain ⟨j, hj, rfl⟩ := List.mem_iff_getElem.1 h
    have := hp j hj
    rwa [List.getD_eq_getElem?_getD, List.getElem?_eq_getElem hj] at this
  | succ d ih =>
    intro i hi hp
    have hlt : i < o.length := by omega
    have st : ∀ k, skiareatop_TopSnow.l0 (k + 1) gs hs w o (i : Int) = if ((o.getD i []).length : Int) > 20 then some true else skiareatop_TopSnow.l0 k gs hs w o ((i + 1 : Nat) : Int) := by
      intro k
      simp only [skiareatop_TopSnow.l0]
      rw [if_pos (by omega), if_pos (by omega), rdL_nat, w64s i o.length hlt (by omega)]
    by_cases q : ((o.getD i []).length : Int) > 20
    · rw [hr2]; exact Ev.step (f := fun _ => some true) (fun k => by rw [st, if_pos q]) (Ev.now _)
    · refine Ev.step (f := fun k => skiareatop_TopSnow.l0 k gs hs w o ((i + 1 : Nat) : Int)) (fun k => by rw [st, if_neg q]) (ih (i + 1) (by omega) (fun j hj => ?_))
      by_cases e : j = i
      · subst e; omega
      · exact hp j (by omega)
theorem top_more {gs : List S42} {hs : List S39} (I : In gs hs) {w w' : Int} (w0 : 0 ≤ w) (hw : w ≤ w') : (sch gs hs w).1 ≤ (sch gs hs w').1 := by
  obtain ⟨_, _, _, _, r5, r6, _⟩ := sch_spec gs I.g5 I.gr hs w I.hr w0
  obtain ⟨a1, a2, a3⟩ := ((feas_iff gs I.g5 I.gr hs w _ I.hr w0).1).1 r5
  have f := ((feas_iff gs I.g5 I.gr hs w' _ I.hr (by omega)).1).2 ⟨a1, a2, by omega⟩
  have := (sch_spec gs I.g5 I.gr hs w' I.hr (by omega)).2.2.2.2.2.2 _ f
  omega
theorem top_law (gs : List S42) (hs : List S39) (w : Int) (o : List (List Int)) : ∃ k, skiareatop_TopSnow.f k gs hs w o = some true := by
  refine Ev.rounds (g := fun k => skiareatop_TopSnow.f k gs hs w o) ?_
  unfold skiareatop_TopSnow.f
  refine Ev.bind (a := true) (Ev.now _) ?_
  simp only [if_true]
  have out : Ev (fun k => skiareatop_TopSnow.j0 k gs hs w o true) true := Ev.step (f := fun _ => some true) (fun k => by simp only [skiareatop_TopSnow.j0, if_true]) (Ev.now _)
  by_cases q1 : (gs.length : Int) > 5
  · simp only [if_pos q1]; exact out
  simp only [if_neg q1]
  by_cases q2 : (hs.length : Int) > 3
  · simp only [if_pos q2]; exact out
  simp only [if_neg q2]
  by_cases q3 : (o.length : Int) > 10
  · simp only [if_pos q3]; exact out
  simp only [if_neg q3]
  refine Ev.bind (ref_right_ev gs hs) ?_
  by_cases q : rightS gs hs = 0
  · have I := in_of q
    simp only [q, if_true]
    by_cases q4 : w < 0
    · simp only [if_pos q4]; exact out
    simp only [if_neg q4]
    by_cases q5 : w > 1099511627776
    · rw [decide_eq_true q5]; exact out
    rw [decide_eq_false q5]
    refine Ev.step (f := fun k => skiareatop_TopSnow.l0 k gs hs w o ((0 : Nat) : Int)) (fun k => by simp only [skiareatop_TopSnow.j0]; rw [if_neg (by decide)]; rfl) ?_
    refine top_loop gs hs w o (by omega) (fun hp => ?_) rfl o.length 0 (by omega) (fun j hj => by omega)
    obtain ⟨b1, b2, b3⟩ := best_facts I w (by omega)
    have used : ¬ pw gs (bestS gs hs w) > w := by
      unfold validS at b3
      simp only [Bool.and_eq_true, decide_eq_true_eq] at b3
      omega
    have more : ¬ grS gs hs (w + 1) < grS gs hs w := by
      have := top_more I (w := w) (w' := w + 1) (by omega) (by omega)
      unfold grS; rw [if_neg (by omega), if_neg (by omega)]; omega
    have hp' : ∀ p ∈ o, p.length ≤ 1000 := fun p h => by have := hp p h; omega
    refine Ev.step (f := fun k => ((snowplan_Greatest.f k gs hs w).bind fun t238 => ((snowplan_Best.f k gs hs w).bind fun t239 => ((snowplan_Worth.f k gs hs t239).bind fun bt242 => (if bt242.2.2 = true then (if bt242.1 = t238 then (if bt242.2.1 > w then (skiareatop_TopSnow.j2 k gs hs w o t238 true) else ((snowplan_Valid.f k gs hs w t239).bind fun t245 => (if t245 = true then ((snowplan_Greatest.f k gs hs (wrap64 (w + 1))).bind fun t246 => (skiareatop_TopSnow.j2 k gs hs w o t238 (decide (t246 < t238)))) else (skiareatop_TopSnow.j2 k gs hs w o t238 true)))) else (skiareatop_TopSnow.j2 k gs hs w o t238 true)) else (skiareatop_TopSnow.j2 k gs hs w o t238 true)))))) (fun k => by simp only [skiareatop_TopSnow.l0]; rw [if_neg (by omega)]) ?_
    refine Ev.bind (greatest_ev I w (by omega)) (Ev.bind (best_ev I w (by omega)) (Ev.bind (worth_ev I _ b1) ?_))
    rw [b2]
    simp only [if_true, if_neg used]
    refine Ev.bind (valid_ev I w _ b1) ?_
    rw [b3]
    simp only [if_true]
    rw [w64 (x := w + 1) (by omega) (by omega)]
    refine Ev.bind (greatest_ev I (w + 1) (by omega)) ?_
    rw [decide_eq_false more]
    refine Ev.step (f := fun k => (snowplan_Worth.f k gs hs o).bind fun a => (snowplan_Valid.f k gs hs w o).bind fun b => if b = true then some (decide (a.1 ≤ grS gs hs w)) else some true) (fun k => by simp only [skiareatop_TopSnow.j2]; rw [if_neg (by decide)]) ?_
    refine Ev.bind (worth_ev I o hp') (Ev.bind (valid_ev I w o hp') ?_)
    cases hv : validS gs hs w o with
    | false => simp only [Bool.false_eq_true, if_false]; exact Ev.now _
    | true =>
      simp only [if_true]
      unfold validS at hv
      simp only [Bool.and_eq_true, decide_eq_true_eq] at hv
      have hf := ((feas_iff gs I.g5 I.gr hs w o I.hr (by omega)).1).2 ⟨hv.1.1, hv.1.2, hv.2⟩
      have := (sch_spec gs I.g5 I.gr hs w I.hr (by omega)).2.2.2.2.2.2 o hf
      unfold worthS grS
      rw [if_pos hv.1.1, if_neg (by omega), decide_eq_true this]
      exact Ev.now _
  · simp only [q, if_false]; exact out
end Go.Proofs.Ytefinjjcbpdljaa.PB
