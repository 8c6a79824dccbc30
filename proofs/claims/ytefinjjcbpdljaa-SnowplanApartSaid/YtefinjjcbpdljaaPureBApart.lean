/- The plain laws of chapter 43: what the printed functions compute, over whole numbers and lists alone. No conditions beyond those that each theorem states. -/
import Derived.Test.YtefinjjcbpdljaaPureB
namespace Go.Proofs.Ytefinjjcbpdljaa.PB
open Go.RowKit Go.Proofs.YtefinjjcbpdljaaW.PrintWords Go.Proofs.YtefinjjcbpdljaaW.PrintLast Go.Proofs.YtefinjjcbpdljaaW.PrintMore
set_option linter.unusedVariables false
set_option linter.unusedSimpArgs false
/-! ### water enough for all: each hour by itself -/
def sumW : List S42 → Int
  | [] => 0
  | g :: gs => g.f1 + sumW gs
theorem sumW_bd (gs : List S42) (hg : ∀ g ∈ gs, GR g) : 0 ≤ sumW gs ∧ sumW gs ≤ 1000000000 * (gs.length : Int) := by
  induction gs with
  | nil => simp [sumW]
  | cons g gs ih =>
    have := hg g (by simp)
    unfold GR at this
    have := ih (fun x hx => hg x (by simp [hx]))
    simp only [sumW, List.length_cons]
    omega
theorem sumW_drop (gs : List S42) (hg : ∀ g ∈ gs, GR g) (i : Nat) : ∀ d, sumW (gs.drop (i + d)) ≤ sumW (gs.drop i) := by
  intro d
  induction d with
  | zero => exact Int.le_refl _
  | succ d ih =>
    by_cases h : i + d < gs.length
    · have := hg _ (getD_mem gs z42 (i + d) h)
      unfold GR at this
      rw [getD_drop gs z42 (i + d) h] at ih
      simp only [sumW] at ih
      rw [← Nat.add_assoc]; omega
    · rw [List.drop_of_length_le (by omega)]
      have := (sumW_bd (gs.drop i) (fun g hx => hg g (List.mem_of_mem_drop hx))).1
      simpa [sumW] using this
theorem sw_le (gs : List S42) (hg : ∀ g ∈ gs, GR g) (p : List Int) : ∀ prev : Int, -1 ≤ prev → Asc gs.length prev p → sw gs p ≤ sumW (gs.drop (prev + 1).toNat) := by
  induction p with
  | nil => intro prev _ _; exact (sumW_bd _ (fun g hx => hg g (List.mem_of_mem_drop hx))).1
  | cons x xs ih =>
    intro prev hp ha
    obtain ⟨a1, a2, a3, a4⟩ := ha
    have h1 := ih x (by omega) a4
    have e : (x + 1).toNat = x.toNat + 1 := by omega
    have h2 := getD_drop gs z42 x.toNat (by omega)
    have h3 := sumW_drop gs hg (prev + 1).toNat (x.toNat - (prev + 1).toNat)
    rw [show (prev + 1).toNat + (x.toNat - (prev + 1).toNat) = x.toNat by omega, h2] at h3
    simp only [sumW] at h3
    rw [e] at h1
    simp only [sw]
    omega
theorem sw_all (gs : List S42) (hg : ∀ g ∈ gs, GR g) {p : List Int} (ha : Asc gs.length (-1) p) : sw gs p ≤ sumW gs := by
  have := sw_le gs hg p (-1) (by omega) ha
  simpa using this
/-- Each hour's greatest worth by itself, added up. -/
def solo (gs : List S42) (w : Int) : List S39 → Int
  | [] => 0
  | h :: hs => (sch gs [h] w).1 + solo gs w hs
theorem apart_eq (gs : List S42) (g5 : gs.length ≤ 5) (hg : ∀ g ∈ gs, GR g) (w : Int) (hw : sumW gs ≤ w) (hs : List S39) (hr : ∀ h ∈ hs, HR h) : ∀ u : Int, sumW gs * (hs.length : Int) ≤ u → (sch gs hs u).1 = solo gs w hs := by
  have s0 := (sumW_bd gs hg).1
  induction hs with
  | nil => intro u _; rfl
  | cons h hs ih =>
    intro u hu
    have hh := hr h (by simp)
    have hr' : ∀ x ∈ hs, HR x := fun x hx => hr x (by simp [hx])
    have em : sumW gs * (((h :: hs).length : Nat) : Int) = sumW gs * (hs.length : Int) + sumW gs := by
      rw [List.length_cons, show ((hs.length + 1 : Nat) : Int) = (hs.length : Int) + 1 by omega, Int.mul_add, Int.mul_one]
    have pos : 0 ≤ sumW gs * (hs.length : Int) := Int.mul_nonneg s0 (by omega)
    rw [em] at hu
    have one : ∀ x ∈ [h], HR x := fun x hx => by rw [List.mem_singleton.1 hx]; exact hh
    obtain ⟨_, _, _, _, a5, a6, a7⟩ := sch_spec gs g5 hg [h] w one (by omega)
    obtain ⟨_, _, _, _, b5, b6, b7⟩ := sch_spec gs g5 hg (h :: hs) u hr (by omega)
    simp only [solo]
    -- at most
    have up : (sch gs (h :: hs) u).1 ≤ (sch gs [h] w).1 + solo gs w hs := by
      rw [← b6]
      generalize (sch gs (h :: hs) u).2.map (sel gs.length) = ps at b5
      cases ps with
      | nil => exact absurd b5 (by simp [Feas])
      | cons p ps =>
        obtain ⟨f1, f2, f3, f4⟩ := b5
        have l := sw_all gs hg f1
        have x := a7 [p] ⟨f1, f2, by omega, trivial⟩
        have y := (sch_spec gs g5 hg hs (u - sw gs p) hr' (by omega)).2.2.2.2.2.2 ps f4
        rw [ih hr' (u - sw gs p) (by omega)] at y
        simp only [pv, Int.add_zero] at x ⊢
        omega
    -- at least
    have dn : (sch gs [h] w).1 + solo gs w hs ≤ (sch gs (h :: hs) u).1 := by
      rw [← a6]
      generalize (sch gs [h] w).2.map (sel gs.length) = ps at a5
      cases ps with
      | nil => exact absurd a5 (by simp [Feas])
      | cons p ps =>
        obtain ⟨f1, f2, f3, f4⟩ := a5
        have l := sw_all gs hg f1
        obtain ⟨_, _, _, _, c5, c6, _⟩ := sch_spec gs g5 hg hs (u - sw gs p) hr' (by omega)
        have x := b7 (p :: (sch gs hs (u - sw gs p)).2.map (sel gs.length)) ⟨f1, f2, by omega, c5⟩
        simp only [pv] at x ⊢
        rw [c6, ih hr' (u - sw gs p) (by omega)] at x
        omega
    omega
theorem apart_water {gs : List S42} {hs : List S39} (I : In gs hs) {r : Bool} : ∀ (d i : Nat) (w : Int), i + d = gs.length → 0 ≤ w → w ≤ 65535 + 3000000000 * (i : Int) →
    Ev (fun k => skiarealaw43_SnowplanApart.l1 k gs hs (w + sumW (gs.drop i) * (hs.length : Int)) 0 0) r → Ev (fun k => skiarealaw43_SnowplanApart.l0 k gs hs w (i : Int)) r := by
  intro d
  have g5 := I.g5
  have h3 := I.h3
  induction d with
  | zero =>
    intro i w hi _ _ h
    rw [List.drop_of_length_le (by omega)] at h
    simp only [sumW, Int.zero_mul, Int.add_zero] at h
    exact Ev.step (f := fun k => skiarealaw43_SnowplanApart.l1 k gs hs w 0 0) (fun k => by simp only [skiarealaw43_SnowplanApart.l0]; rw [if_neg (by omega)]) h
  | succ d ih =>
    intro i w hi w0 w1 h
    have hlt : i < gs.length := by omega
    have hg := I.gr _ (getD_mem gs z42 i hlt)
    unfold GR at hg
    rw [getD_drop gs z42 i hlt] at h
    simp only [sumW] at h
    generalize hx : gs.getD i z42 = x at *
    have m0 : 0 ≤ x.f1 * (hs.length : Int) := Int.mul_nonneg (by omega) (by omega)
    have m1 : x.f1 * (hs.length : Int) ≤ 1000000000 * 3 := Int.mul_le_mul (by omega) (by omega) (by omega) (by omega)
    rw [Int.add_mul, ← Int.add_assoc] at h
    refine Ev.step (f := fun k => skiarealaw43_SnowplanApart.l0 k gs hs (w + x.f1 * (hs.length : Int)) ((i + 1 : Nat) : Int)) (fun k => ?_) (ih (i + 1) (w + x.f1 * (hs.length : Int)) (by omega) (by omega) (by omega) h)
    simp only [skiarealaw43_SnowplanApart.l0]
    rw [if_pos (by omega), if_pos (by omega), rdG_nat, hx, w64 (x := x.f1 * _) (by omega) (by omega), w64 (x := w + _) (by omega) (by omega), w64s i gs.length hlt (by omega)]
theorem apart_hours {gs : List S42} {hs : List S39} (I : In gs hs) {w : Int} (w0 : 0 ≤ w) (w1 : w ≤ 9223372036854775807) {v : Int} (hv : (sch gs hs w).1 = v) : ∀ (d i : Nat) (s : Int), i + d = hs.length → 0 ≤ s → s ≤ 5000000000 * (i : Int) → s + solo gs w (hs.drop i) = v →
    Ev (fun k => skiarealaw43_SnowplanApart.l1 k gs hs w s (i : Int)) true := by
  intro d
  have h3 := I.h3
  induction d with
  | zero =>
    intro i s hi _ _ e
    rw [List.drop_of_length_le (by omega)] at e
    simp only [solo, Int.add_zero] at e
    refine Ev.step (f := fun k => (snowplan_Greatest.f k gs hs w).bind fun t => some (t == s)) (fun k => by simp only [skiarealaw43_SnowplanApart.l1]; rw [if_neg (by omega)]) ?_
    refine Ev.bind (greatest_ev I w w1) ?_
    have : grS gs hs w = s := by unfold grS; rw [if_neg (by omega), hv, e]
    rw [this]
    simpa using Ev.now true
  | succ d ih =>
    intro i s hi s0 s1 e
    have hlt : i < hs.length := by omega
    have hh := I.hr _ (getD_mem hs z39 i hlt)
    rw [getD_drop hs z39 i hlt] at e
    simp only [solo] at e
    have one : (hs.take (i + 1)).drop i = [hs.getD i z39] := by
      rw [List.take_succ_eq_append_getElem hlt, List.drop_append_of_le_length (by rw [List.length_take]; omega), List.drop_of_length_le (by rw [List.length_take]; omega), List.nil_append, List.getD_eq_getElem?_getD, List.getElem?_eq_getElem hlt]; rfl
    generalize hx : hs.getD i z39 = x at *
    have J : In gs [x] := ⟨I.g5, by simp, I.gr, fun y hy => by rw [List.mem_singleton.1 hy]; exact hh⟩
    obtain ⟨b0, b1, _⟩ := sch_spec gs J.g5 J.gr [x] w J.hr w0
    have eg : grS gs [x] w = (sch gs [x] w).1 := by unfold grS; rw [if_neg (by omega)]
    simp only [List.length_cons, List.length_nil] at b1
    refine Ev.step (f := fun k => (snowplan_Greatest.f k gs [x] w).bind fun t => skiarealaw43_SnowplanApart.l1 k gs hs w (wrap64 (s + t)) ((i + 1 : Nat) : Int)) (fun k => ?_) ?_
    · simp only [skiarealaw43_SnowplanApart.l1]
      rw [if_pos (by omega), if_pos (by omega), w64s i hs.length hlt (by omega), if_pos (by omega), if_pos (by omega), Int.toNat_natCast, Int.toNat_natCast, one]
    · refine Ev.bind (greatest_ev J w w1) ?_
      rw [eg, w64 (by omega) (by omega)]
      exact ih (i + 1) _ (by omega) (by omega) (by omega) (by omega)
theorem apart (gs : List S42) (hs : List S39) (a : Int) (a0 : 0 ≤ a) (a1 : a ≤ 65535) : ∃ k, skiarealaw43_SnowplanApart.f k gs hs a = some true := by
  refine Ev.rounds (g := fun k => skiarealaw43_SnowplanApart.f k gs hs a) ?_
  unfold skiarealaw43_SnowplanApart.f
  refine Ev.bind alive_ev ?_
  simp only [if_true]
  have out : Ev (fun k => skiarealaw43_SnowplanApart.j0 k gs hs a true) true := Ev.step (f := fun _ => some true) (fun k => by simp only [skiarealaw43_SnowplanApart.j0, if_true]) (Ev.now _)
  by_cases q1 : (gs.length : Int) > 5
  · simp only [if_pos q1]; exact out
  simp only [if_neg q1]
  by_cases q2 : (hs.length : Int) > 3
  · simp only [if_pos q2]; exact out
  simp only [if_neg q2]
  refine Ev.bind (right_ev gs hs) ?_
  by_cases q : rightS gs hs = 0
  · have I := in_of q
    have g5 := I.g5
    have h3 := I.h3
    rw [q]
    obtain ⟨s0, s1⟩ := sumW_bd gs I.gr
    have pos : 0 ≤ sumW gs * (hs.length : Int) := Int.mul_nonneg s0 (by omega)
    have hi : sumW gs * (hs.length : Int) ≤ 5000000000 * 3 := Int.mul_le_mul (by omega) (by omega) (by omega) (by omega)
    refine Ev.step (f := fun k => skiarealaw43_SnowplanApart.l0 k gs hs a ((0 : Nat) : Int)) (fun k => by simp only [skiarealaw43_SnowplanApart.j0]; rw [if_neg (by decide), w64 (by omega) (by omega)]; rfl) (apart_water I gs.length 0 a (by omega) a0 (by omega) ?_)
    rw [List.drop_zero]
    by_cases z : hs.length = 0
    · have e : hs = [] := List.length_eq_zero_iff.1 z
      subst e
      exact apart_hours I (by omega) (by omega) rfl 0 0 0 (by rfl) (by omega) (by omega) (by rfl)
    · have big : sumW gs ≤ a + sumW gs * (hs.length : Int) := by
        have : sumW gs * 1 ≤ sumW gs * (hs.length : Int) := Int.mul_le_mul_of_nonneg_left (by omega) s0
        omega
      have e := apart_eq gs I.g5 I.gr (a + sumW gs * (hs.length : Int)) big hs I.hr (a + sumW gs * (hs.length : Int)) (by omega)
      exact apart_hours I (by omega) (by omega) e hs.length 0 0 (by omega) (by omega) (by omega) (by rw [List.drop_zero]; omega)
  · rw [bne_iff_ne.2 q]; exact out
theorem apart_row (gs : List S42) (hs : List S39) (a : Int) (a0 : IntKind.u16.min ≤ a) (a1 : a ≤ IntKind.u16.max) : ∃ k, skiarealaw43_SnowplanApart.f k gs hs a = some true := by
  have e0 : IntKind.u16.min = 0 := by decide
  have e1 : IntKind.u16.max = 65535 := by decide
  exact apart gs hs a (by omega) (by omega)
end Go.Proofs.Ytefinjjcbpdljaa.PB
