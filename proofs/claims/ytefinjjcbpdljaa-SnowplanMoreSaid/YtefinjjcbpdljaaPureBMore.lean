/- The plain laws of chapter 43: what the printed functions compute, over whole numbers and lists alone. No conditions beyond those that each theorem states. -/
import Derived.Test.YtefinjjcbpdljaaPureB
namespace Go.Proofs.Ytefinjjcbpdljaa.PB
open Go.RowKit Go.Proofs.YtefinjjcbpdljaaW.PrintWords Go.Proofs.YtefinjjcbpdljaaW.PrintLast Go.Proofs.YtefinjjcbpdljaaW.PrintMore
set_option linter.unusedVariables false
set_option linter.unusedSimpArgs false
/-! ### more water, more power, one gun less -/
theorem grS_more {gs : List S42} {hs : List S39} (I : In gs hs) {w w' : Int} (w0 : 0 ≤ w) (hw : w ≤ w') : (sch gs hs w).1 ≤ (sch gs hs w').1 := by
  obtain ⟨_, _, _, _, r5, r6, _⟩ := sch_spec gs I.g5 I.gr hs w I.hr w0
  obtain ⟨a1, a2, a3⟩ := ((feas_iff gs I.g5 I.gr hs w _ I.hr w0).1).1 r5
  have f := ((feas_iff gs I.g5 I.gr hs w' _ I.hr (by omega)).1).2 ⟨a1, a2, by omega⟩
  have := (sch_spec gs I.g5 I.gr hs w' I.hr (by omega)).2.2.2.2.2.2 _ f
  omega
/-- Hours alike but for more power. -/
def Up : List S39 → List S39 → Prop
  | [], [] => True
  | h :: hs, k :: ks => h.f0 ≤ k.f0 ∧ h.f1 = k.f1 ∧ Up hs ks
  | _, _ => False
theorem up_refl (hs : List S39) : Up hs hs := by
  induction hs with
  | nil => trivial
  | cons h hs ih => exact ⟨Int.le_refl _, rfl, ih⟩
theorem up_set (hs : List S39) : ∀ (i : Nat) (y : S39), (hs.getD i z39).f0 ≤ y.f0 → (hs.getD i z39).f1 = y.f1 → Up hs (hs.set i y) := by
  induction hs with
  | nil => intro i y _ _; trivial
  | cons h hs ih =>
    intro i y h1 h2
    cases i with
    | zero => exact ⟨h1, h2, up_refl hs⟩
    | succ i => exact ⟨Int.le_refl _, rfl, ih i y h1 h2⟩
theorem sv_congr (gs : List S42) {h k : S39} (e : h.f1 = k.f1) (p : List Int) : sv gs h p = sv gs k p := by
  induction p with
  | nil => rfl
  | cons x xs ih => simp only [sv, vl, e, ih]
theorem up_feas (gs : List S42) (hs : List S39) : ∀ (ks : List S39) (w : Int) (ps : List (List Int)), Up hs ks → Feas gs hs w ps → Feas gs ks w ps ∧ pv gs ks ps = pv gs hs ps := by
  induction hs with
  | nil =>
    intro ks w ps u f
    cases ks with
    | nil => exact ⟨f, rfl⟩
    | cons k ks => exact absurd u (by simp [Up])
  | cons h hs ih =>
    intro ks w ps u f
    cases ks with
    | nil => exact absurd u (by simp [Up])
    | cons k ks =>
      cases ps with
      | nil => exact absurd f (by simp [Feas])
      | cons p ps =>
        obtain ⟨u1, u2, u3⟩ := u
        obtain ⟨f1, f2, f3, f4⟩ := f
        obtain ⟨g1, g2⟩ := ih ks _ ps u3 f4
        refine ⟨⟨f1, by omega, f3, g1⟩, ?_⟩
        simp only [pv]
        rw [g2, sv_congr gs u2]
theorem grS_up {gs : List S42} {hs ks : List S39} (I : In gs hs) (J : In gs ks) (u : Up hs ks) {w : Int} (w0 : 0 ≤ w) : (sch gs hs w).1 ≤ (sch gs ks w).1 := by
  obtain ⟨_, _, _, _, r5, r6, _⟩ := sch_spec gs I.g5 I.gr hs w I.hr w0
  obtain ⟨f1, f2⟩ := up_feas gs hs ks w _ u r5
  have := (sch_spec gs J.g5 J.gr ks w J.hr w0).2.2.2.2.2.2 _ f1
  omega
/-- The guns without the i-th. -/
def less (gs : List S42) (i : Nat) : List S42 := gs.take i ++ gs.drop (i + 1)
def sh (i : Nat) (x : Int) : Int := if x < (i : Int) then x else x + 1
theorem less_len (gs : List S42) (i : Nat) (hi : i < gs.length) : (less gs i).length + 1 = gs.length := by
  unfold less; rw [List.length_append, List.length_take, List.length_drop]; omega
theorem less_at (gs : List S42) (i : Nat) (hi : i < gs.length) {x : Int} (h0 : 0 ≤ x) : (less gs i).getD x.toNat z42 = gs.getD (sh i x).toNat z42 := by
  unfold less sh
  by_cases q : x < (i : Int)
  · rw [if_pos q, List.getD_eq_getElem?_getD, List.getD_eq_getElem?_getD, List.getElem?_append_left (by rw [List.length_take]; omega), List.getElem?_take, if_pos (by omega)]
  · rw [if_neg q, List.getD_eq_getElem?_getD, List.getD_eq_getElem?_getD, List.getElem?_append_right (by rw [List.length_take]; omega), List.getElem?_drop, List.length_take]
    congr 2; omega
theorem less_asc (gs : List S42) (i : Nat) (hi : i < gs.length) (h : S39) (p : List Int) : ∀ prev : Int, -1 ≤ prev → Asc (less gs i).length prev p → Asc gs.length (sh i prev) (p.map (sh i)) ∧ sv gs h (p.map (sh i)) = sv (less gs i) h p ∧ sw gs (p.map (sh i)) = sw (less gs i) p ∧ sp gs (p.map (sh i)) = sp (less gs i) p := by
  have hl := less_len gs i hi
  induction p with
  | nil => intro prev _ _; exact ⟨trivial, rfl, rfl, rfl⟩
  | cons x xs ih =>
    intro prev hp ha
    obtain ⟨a1, a2, a3, a4⟩ := ha
    obtain ⟨b1, b2, b3, b4⟩ := ih x (by omega) a4
    have e := less_at gs i hi a2
    have m1 : sh i prev < sh i x := by unfold sh; split <;> split <;> omega
    have m2 : 0 ≤ sh i x ∧ sh i x < (gs.length : Int) := by unfold sh; split <;> omega
    refine ⟨⟨m1, m2.1, m2.2, b1⟩, ?_, ?_, ?_⟩
    · simp only [List.map_cons, sv, vl]; rw [b2, e]
    · simp only [List.map_cons, sw]; rw [b3, e]
    · simp only [List.map_cons, sp]; rw [b4, e]
theorem less_feas (gs : List S42) (i : Nat) (hi : i < gs.length) (hs : List S39) : ∀ (w : Int) (ps : List (List Int)), Feas (less gs i) hs w ps → Feas gs hs w (ps.map (List.map (sh i))) ∧ pv gs hs (ps.map (List.map (sh i))) = pv (less gs i) hs ps := by
  have s1 : sh i (-1) = -1 := by unfold sh; rw [if_pos (by omega)]
  induction hs with
  | nil =>
    intro w ps f
    cases ps with
    | nil => exact ⟨trivial, rfl⟩
    | cons p ps => exact absurd f (by simp [Feas])
  | cons h hs ih =>
    intro w ps f
    cases ps with
    | nil => exact absurd f (by simp [Feas])
    | cons p ps =>
      obtain ⟨f1, f2, f3, f4⟩ := f
      obtain ⟨b1, b2, b3, b4⟩ := less_asc gs i hi h p (-1) (by omega) f1
      rw [s1] at b1
      obtain ⟨c1, c2⟩ := ih _ ps f4
      refine ⟨⟨b1, by rw [b4]; exact f2, by rw [b3]; exact f3, by rw [b3]; exact c1⟩, ?_⟩
      simp only [List.map_cons, pv]
      rw [b2, c2]
theorem less_in {gs : List S42} {hs : List S39} (I : In gs hs) (i : Nat) (hi : i < gs.length) : In (less gs i) hs where
  g5 := by have := less_len gs i hi; have := I.g5; omega
  h3 := I.h3
  gr := fun g hg => by
    unfold less at hg
    rcases List.mem_append.1 hg with h | h
    · exact I.gr g (List.mem_of_mem_take h)
    · exact I.gr g (List.mem_of_mem_drop h)
  hr := I.hr
theorem grS_less {gs : List S42} {hs : List S39} (I : In gs hs) (i : Nat) (hi : i < gs.length) {w : Int} (w0 : 0 ≤ w) : (sch (less gs i) hs w).1 ≤ (sch gs hs w).1 := by
  have J := less_in I i hi
  obtain ⟨_, _, _, _, r5, r6, _⟩ := sch_spec _ J.g5 J.gr hs w J.hr w0
  obtain ⟨f1, f2⟩ := less_feas gs i hi hs w _ r5
  have := (sch_spec gs I.g5 I.gr hs w I.hr w0).2.2.2.2.2.2 _ f1
  omega
theorem pv_none (hs : List S39) : ∀ ps, AllAsc 0 hs ps → pv [] hs ps = 0 := by
  induction hs with
  | nil => intro ps h; cases ps with
    | nil => rfl
    | cons p ps => rfl
  | cons h hs ih => intro ps ha; cases ps with
    | nil => rfl
    | cons p ps =>
      cases p with
      | nil => simp only [pv, sv]; rw [ih ps ha.2]; rfl
      | cons x xs => exact absurd ha.1 (by intro z; have := z.2.1; have := z.2.2.1; omega)
theorem grS_none {hs : List S39} (I : In [] hs) {w : Int} (w0 : 0 ≤ w) : (sch [] hs w).1 = 0 := by
  obtain ⟨_, _, _, _, r5, r6, _⟩ := sch_spec [] I.g5 I.gr hs w I.hr w0
  have a1 := (((feas_iff [] I.g5 I.gr hs w _ I.hr w0).1).1 r5).1
  rw [← r6]; exact pv_none hs _ a1
theorem tmod_at {x : Int} (x0 : 0 ≤ x) (x1 : x ≤ 255) {n : Nat} (hn : n ≠ 0) : ∃ j : Nat, j < n ∧ Int.tmod (wrap64 x) (n : Int) = (j : Int) := by
  rw [w64 (by omega) (by omega), Int.tmod_eq_emod_of_nonneg x0]
  have h0 := Int.emod_nonneg x (b := (n : Int)) (by omega)
  have h1 := Int.emod_lt_of_pos x (b := (n : Int)) (by omega)
  exact ⟨(x % (n : Int)).toNat, by omega, by omega⟩
theorem more_tail {gs : List S42} {hs : List S39} (I : In gs hs) {w a : Int} (w0 : 0 ≤ w) (w1 : w ≤ 9223372036854775807) (a0 : 0 ≤ a) (a1 : a ≤ 255) :
    Ev (fun k => (if (gs.length : Int) = 0 then (some (grS gs hs w == 0)) else ((some (([] : List (S42)) : List (S42))).bind fun y331 => (if 0 ≤ (Int.tmod (wrap64 (a)) (gs.length : Int)) then (if (Int.tmod (wrap64 (a)) (gs.length : Int)) ≤ (gs.length : Int) then ((some (gs.take ((Int.tmod (wrap64 (a)) (gs.length : Int)) : Int).toNat : List (S42))).bind fun y334 => (if y331.length + y334.length < 4398046511104 then ((some (y331 ++ y334 : List (S42))).bind fun y338 => (if 0 ≤ (wrap64 ((Int.tmod (wrap64 (a)) (gs.length : Int)) + 1)) then (if (wrap64 ((Int.tmod (wrap64 (a)) (gs.length : Int)) + 1)) ≤ (gs.length : Int) then ((some (gs.drop ((wrap64 ((Int.tmod (wrap64 (a)) (gs.length : Int)) + 1)) : Int).toNat : List (S42))).bind fun y341 => (if y338.length + y341.length < 4398046511104 then ((snowplan_Greatest.f k (y338 ++ y341) hs w).bind fun t348 => (some (decide (t348 ≤ grS gs hs w)))) else (none))) else (none)) else (none))) else (none))) else (none)) else (none))))) true := by
  by_cases q : gs.length = 0
  · have e : gs = [] := List.length_eq_zero_iff.1 q
    subst e
    simp only [if_pos (show ((([] : List S42).length : Nat) : Int) = 0 from rfl)]
    unfold grS
    rw [if_neg (by omega), grS_none I w0]; exact Ev.now _
  · obtain ⟨j, hj, ej⟩ := tmod_at a0 a1 q
    have g5 := I.g5
    have e2 : wrap64 ((j : Int) + 1) = ((j + 1 : Nat) : Int) := w64s j gs.length hj (by omega)
    have J := less_in I j hj
    have le := grS_less I j hj w0
    have hl := less_len gs j hj
    have tj : (gs.take j).length = j := by rw [List.length_take]; omega
    simp only [if_neg (show ¬ ((gs.length : Nat) : Int) = 0 by omega), ej, e2, Int.toNat_natCast, if_pos (show (0 : Int) ≤ (j : Int) by omega), if_pos (show (j : Int) ≤ (gs.length : Int) by omega), if_pos (show (0 : Int) ≤ ((j + 1 : Nat) : Int) by omega), if_pos (show ((j + 1 : Nat) : Int) ≤ (gs.length : Int) by omega), Option.bind_some, List.nil_append, List.length_nil, Nat.zero_add, tj]
    simp only [if_pos (show j < 4398046511104 by omega), if_pos (show j + (gs.drop (j + 1)).length < 4398046511104 by rw [List.length_drop]; omega)]
    refine Ev.bind (greatest_ev J w w1) ?_
    rw [decide_eq_true (by unfold grS; rw [if_neg (by omega), if_neg (by omega)]; exact le)]
    exact Ev.now _
theorem more_law (gs : List S42) (hs : List S39) (w b a : Int) (b0 : 0 ≤ b) (b1 : b ≤ 65535) (a0 : 0 ≤ a) (a1 : a ≤ 255) : ∃ k, skiarealaw43_SnowplanMore.f k gs hs w b a = some true := by
  refine Ev.rounds (g := fun k => skiarealaw43_SnowplanMore.f k gs hs w b a) ?_
  unfold skiarealaw43_SnowplanMore.f
  refine Ev.bind alive_ev ?_
  simp only [if_true]
  have out : Ev (fun k => skiarealaw43_SnowplanMore.j0 k gs hs w b a true) true := Ev.step (f := fun _ => some true) (fun k => by simp only [skiarealaw43_SnowplanMore.j0, if_true]) (Ev.now _)
  by_cases q1 : (gs.length : Int) > 5
  · simp only [if_pos q1]; exact out
  simp only [if_neg q1]
  by_cases q2 : (hs.length : Int) > 3
  · simp only [if_pos q2]; exact out
  simp only [if_neg q2]
  refine Ev.bind (right_ev gs hs) ?_
  by_cases q : rightS gs hs = 0
  · have I := in_of q
    simp only [q, if_true]
    by_cases q3 : w < 0
    · simp only [if_pos q3]; exact out
    simp only [if_neg q3]
    by_cases q4 : w > 1125899906842624
    · rw [decide_eq_true q4]; exact out
    rw [decide_eq_false q4]
    have T := more_tail I (w := w) (a := a) (by omega) (by omega) a0 a1
    refine Ev.congr (fun k => ?_) (Ev.step (g := fun k => skiarealaw43_SnowplanMore.j0 k gs hs w b a false) (f := fun k => (snowplan_Greatest.f k gs hs w).bind fun t302 => (snowplan_Greatest.f k gs hs (w + b)).bind fun t303 => if t303 < t302 then none else if (hs.length : Int) > 0 then (snowplan_Greatest.f k gs (hs.set (Int.tmod (wrap64 a) (hs.length : Int)).toNat (⟨mn 1000000000 (wrap64 ((rd_T39 hs (Int.tmod (wrap64 a) (hs.length : Int))).f0 + wrap64 b)), (rd_T39 hs (Int.tmod (wrap64 a) (hs.length : Int))).f1⟩ : S39)) w).bind fun t312 => if t312 < t302 then none else (if (gs.length : Int) = 0 then (some (t302 == 0)) else ((some (([] : List (S42)) : List (S42))).bind fun y331 => (if 0 ≤ (Int.tmod (wrap64 (a)) (gs.length : Int)) then (if (Int.tmod (wrap64 (a)) (gs.length : Int)) ≤ (gs.length : Int) then ((some (gs.take ((Int.tmod (wrap64 (a)) (gs.length : Int)) : Int).toNat : List (S42))).bind fun y334 => (if y331.length + y334.length < 4398046511104 then ((some (y331 ++ y334 : List (S42))).bind fun y338 => (if 0 ≤ (wrap64 ((Int.tmod (wrap64 (a)) (gs.length : Int)) + 1)) then (if (wrap64 ((Int.tmod (wrap64 (a)) (gs.length : Int)) + 1)) ≤ (gs.length : Int) then ((some (gs.drop ((wrap64 ((Int.tmod (wrap64 (a)) (gs.length : Int)) + 1)) : Int).toNat : List (S42))).bind fun y341 => (if y338.length + y341.length < 4398046511104 then ((snowplan_Greatest.f k (y338 ++ y341) hs w).bind fun t348 => (some (decide (t348 ≤ t302)))) else (none))) else (none)) else (none))) else (none))) else (none)) else (none)))) else (if (gs.length : Int) = 0 then (some (t302 == 0)) else ((some (([] : List (S42)) : List (S42))).bind fun y331 => (if 0 ≤ (Int.tmod (wrap64 (a)) (gs.length : Int)) then (if (Int.tmod (wrap64 (a)) (gs.length : Int)) ≤ (gs.length : Int) then ((some (gs.take ((Int.tmod (wrap64 (a)) (gs.length : Int)) : Int).toNat : List (S42))).bind fun y334 => (if y331.length + y334.length < 4398046511104 then ((some (y331 ++ y334 : List (S42))).bind fun y338 => (if 0 ≤ (wrap64 ((Int.tmod (wrap64 (a)) (gs.length : Int)) + 1)) then (if (wrap64 ((Int.tmod (wrap64 (a)) (gs.length : Int)) + 1)) ≤ (gs.length : Int) then ((some (gs.drop ((wrap64 ((Int.tmod (wrap64 (a)) (gs.length : Int)) + 1)) : Int).toNat : List (S42))).bind fun y341 => (if y338.length + y341.length < 4398046511104 then ((snowplan_Greatest.f k (y338 ++ y341) hs w).bind fun t348 => (some (decide (t348 ≤ t302)))) else (none))) else (none)) else (none))) else (none))) else (none)) else (none))))) (fun k => ?_) ?_)
    · rfl
    · simp only [skiarealaw43_SnowplanMore.j0, Bool.false_eq_true, if_false]
      rw [w64 (x := b) (by omega) (by omega), w64 (x := w + b) (by omega) (by omega)]
      by_cases qh : (hs.length : Int) > 0
      · obtain ⟨j, hj, ej⟩ := tmod_at a0 a1 (n := hs.length) (by omega)
        have h3 := I.h3
        simp only [ej, Option.bind_some, List.nil_append, List.length_nil, Nat.zero_add, if_pos (show hs.length < 8796093022208 by omega), if_neg (show ¬ ((hs.length : Nat) : Int) = 0 by omega), if_pos (show (0 : Int) ≤ (j : Int) by omega), if_pos (show (j : Int) < (hs.length : Int) by omega)]
      · simp only [if_neg qh]
    · refine Ev.bind (greatest_ev I w (by omega)) (Ev.bind (greatest_ev I (w + b) (by omega)) ?_)
      have hm : ¬ grS gs hs (w + b) < grS gs hs w := by
        have := grS_more I (w := w) (w' := w + b) (by omega) (by omega)
        unfold grS; rw [if_neg (by omega), if_neg (by omega)]; omega
      simp only [if_neg hm]
      by_cases qh : (hs.length : Int) > 0
      · simp only [if_pos qh]
        obtain ⟨j, hj, ej⟩ := tmod_at a0 a1 (n := hs.length) (by omega)
        have hjr := I.hr _ (getD_mem hs z39 j hj)
        unfold HR at hjr
        rw [ej, rdH_nat, Int.toNat_natCast, w64 (x := b) (by omega) (by omega), w64 (x := _ + b) (by omega) (by omega)]
        have hmn : (hs.getD j z39).f0 ≤ mn 1000000000 ((hs.getD j z39).f0 + b) ∧ mn 1000000000 ((hs.getD j z39).f0 + b) ≤ 1000000000 := by unfold mn; split <;> omega
        generalize hy : (⟨mn 1000000000 ((hs.getD j z39).f0 + b), (hs.getD j z39).f1⟩ : S39) = y
        have y0 : y.f0 = mn 1000000000 ((hs.getD j z39).f0 + b) := by rw [← hy]
        have y1 : y.f1 = (hs.getD j z39).f1 := by rw [← hy]
        have u := up_set hs j y (by rw [y0]; exact hmn.1) y1.symm
        have J : In gs (hs.set j y) := ⟨I.g5, by rw [List.length_set]; exact I.h3, I.gr, fun h hh => by
          rcases List.mem_or_eq_of_mem_set hh with z | z
          · exact I.hr h z
          · subst z; unfold HR; omega⟩
        refine Ev.bind (greatest_ev J w (by omega)) ?_
        have hm2 : ¬ grS gs (hs.set j y) w < grS gs hs w := by
          have := grS_up I J u (w := w) (by omega)
          unfold grS; rw [if_neg (by omega), if_neg (by omega)]; omega
        simp only [if_neg hm2]
        exact T
      · simp only [if_neg qh]; exact T
  · simp only [q, if_false]; exact out
theorem more_row (gs : List S42) (hs : List S39) (w b a : Int) (_ : IntKind.i64.min ≤ w) (_ : w ≤ IntKind.i64.max) (b0 : IntKind.u16.min ≤ b) (b1 : b ≤ IntKind.u16.max) (a0 : IntKind.u8.min ≤ a) (a1 : a ≤ IntKind.u8.max) : ∃ k, skiarealaw43_SnowplanMore.f k gs hs w b a = some true :=
  more_law gs hs w b a (by have : IntKind.u16.min = 0 := by decide
                           omega) (by have : IntKind.u16.max = 65535 := by decide
                                      omega) (by have : IntKind.u8.min = 0 := by decide
                                                 omega) (by have : IntKind.u8.max = 255 := by decide
                                                            omega)
end Go.Proofs.Ytefinjjcbpdljaa.PB
