-- Written by a program of this session over the translation (wip/tools/pprint.py). Not trusted: Lean checks it.
-- halved
import Derived.Test.YtefinjjcbpdljaaZPPxD
namespace Go.Proofs.Ytefinjjcbpdljaa.PB
open Go.RowKit Go.Proofs.YtefinjjcbpdljaaW.PrintWords Go.Proofs.YtefinjjcbpdljaaW.PrintLast Go.Proofs.YtefinjjcbpdljaaW.PrintMore
attribute [local go_sem] max2_int min2_int max_two min_two max_three min_three max_four min_four   -- for this text's walks alone
set_option linter.unusedVariables false
set_option linter.unusedSimpArgs false

theorem assign_Right.mono_l : ∀ k, (∀ y0 y1 y2 y3, LeO (assign_Right.l0 k y0 y1 y2 y3) (assign_Right.l0 (k + 1) y0 y1 y2 y3)) ∧ (∀ y0 y1 y2 y3, LeO (assign_Right.l1 k y0 y1 y2 y3) (assign_Right.l1 (k + 1) y0 y1 y2 y3)) ∧ (∀ y0 y1 y2, LeO (assign_Right.l2 k y0 y1 y2) (assign_Right.l2 (k + 1) y0 y1 y2)) ∧ (∀ y0 y1 y2 y3 y4 y5, LeO (assign_Right.l3 k y0 y1 y2 y3 y4 y5) (assign_Right.l3 (k + 1) y0 y1 y2 y3 y4 y5))
 | 0 => ⟨fun _ _ _ _ r h => by simp [assign_Right.l0] at h, fun _ _ _ _ r h => by simp [assign_Right.l1] at h, fun _ _ _ r h => by simp [assign_Right.l2] at h, fun _ _ _ _ _ _ r h => by simp [assign_Right.l3] at h⟩
 | k + 1 => by
  obtain ⟨ih0, ih1, ih2, ih3⟩ := assign_Right.mono_l k
  refine ⟨?_, ?_, ?_, ?_⟩
  ·intro y0 y1 y2 y3
   unfold assign_Right.l0
   repeat' first
   | (with_reducible exact ih0 _ _ _ _)
   | (with_reducible exact ih1 _ _ _ _)
   | (with_reducible exact ih2 _ _ _)
   | (with_reducible exact ih3 _ _ _ _ _ _)
   | (with_reducible exact LeO.refl _)
   | (with_reducible exact LeO.none _)
   | (with_reducible refine LeO.ite ?_ ?_)
   | (with_reducible refine LeO.bind ?_ (fun _ => ?_))
   | exact ih0 _ _ _ _
   | exact ih1 _ _ _ _
   | exact ih2 _ _ _
   | exact ih3 _ _ _ _ _ _
   | exact LeO.none _
   | refine LeO.ite ?_ ?_
   | refine LeO.bind ?_ (fun _ => ?_)
  ·intro y0 y1 y2 y3
   unfold assign_Right.l1
   repeat' first
   | (with_reducible exact ih0 _ _ _ _)
   | (with_reducible exact ih1 _ _ _ _)
   | (with_reducible exact ih2 _ _ _)
   | (with_reducible exact ih3 _ _ _ _ _ _)
   | (with_reducible exact LeO.refl _)
   | (with_reducible exact LeO.none _)
   | (with_reducible refine LeO.ite ?_ ?_)
   | (with_reducible refine LeO.bind ?_ (fun _ => ?_))
   | exact ih0 _ _ _ _
   | exact ih1 _ _ _ _
   | exact ih2 _ _ _
   | exact ih3 _ _ _ _ _ _
   | exact LeO.none _
   | refine LeO.ite ?_ ?_
   | refine LeO.bind ?_ (fun _ => ?_)
  ·intro y0 y1 y2
   unfold assign_Right.l2
   repeat' first
   | (with_reducible exact ih0 _ _ _ _)
   | (with_reducible exact ih1 _ _ _ _)
   | (with_reducible exact ih2 _ _ _)
   | (with_reducible exact ih3 _ _ _ _ _ _)
   | (with_reducible exact LeO.refl _)
   | (with_reducible exact LeO.none _)
   | (with_reducible refine LeO.ite ?_ ?_)
   | (with_reducible refine LeO.bind ?_ (fun _ => ?_))
   | exact ih0 _ _ _ _
   | exact ih1 _ _ _ _
   | exact ih2 _ _ _
   | exact ih3 _ _ _ _ _ _
   | exact LeO.none _
   | refine LeO.ite ?_ ?_
   | refine LeO.bind ?_ (fun _ => ?_)
  ·intro y0 y1 y2 y3 y4 y5
   unfold assign_Right.l3
   repeat' first
   | (with_reducible exact ih0 _ _ _ _)
   | (with_reducible exact ih1 _ _ _ _)
   | (with_reducible exact ih2 _ _ _)
   | (with_reducible exact ih3 _ _ _ _ _ _)
   | (with_reducible exact LeO.refl _)
   | (with_reducible exact LeO.none _)
   | (with_reducible refine LeO.ite ?_ ?_)
   | (with_reducible refine LeO.bind ?_ (fun _ => ?_))
   | exact ih0 _ _ _ _
   | exact ih1 _ _ _ _
   | exact ih2 _ _ _
   | exact ih3 _ _ _ _ _ _
   | exact LeO.none _
   | refine LeO.ite ?_ ?_
   | refine LeO.bind ?_ (fun _ => ?_)
theorem assign_Right.mono : ∀ a0 k, LeO (assign_Right.f k a0) (assign_Right.f (k + 1) a0) := by
 intro a0 k
 obtain ⟨ih0, ih1, ih2, ih3⟩ := assign_Right.mono_l k
 unfold assign_Right.f
 repeat' first
   | (with_reducible exact ih0 _ _ _ _)
   | (with_reducible exact ih1 _ _ _ _)
   | (with_reducible exact ih2 _ _ _)
   | (with_reducible exact ih3 _ _ _ _ _ _)
   | (with_reducible exact LeO.refl _)
   | (with_reducible exact LeO.none _)
   | (with_reducible refine LeO.ite ?_ ?_)
   | (with_reducible refine LeO.bind ?_ (fun _ => ?_))
   | exact ih0 _ _ _ _
   | exact ih1 _ _ _ _
   | exact ih2 _ _ _
   | exact ih3 _ _ _ _ _ _
   | exact LeO.none _
   | refine LeO.ite ?_ ?_
   | refine LeO.bind ?_ (fun _ => ?_)
set_option maxHeartbeats 8000000 in
set_option maxRecDepth 100000 in
theorem assign_Right.calls (k : Nat) (A0 : Option Addr) (c0 : Nat) (l0 : List (List Int)) (r : Int) (w : World) (hr0 : Kd.C (Kd.slice 3 (Kd.int .i64)) w A0 l0.length l0) (hc0 : l0.length ≤ c0) (h : assign_Right.f k l0 = some r) :
  Calls Try.prog 39 #[.slice A0 l0.length c0] w fun e w' => e = .returned (.int .i64 r) ∧ Drawn0 w w' := by
 have HR0 := Aside0.mk hr0
 have HC0 := Aside0.mk hc0
 clear hr0 hc0
 have H : (if (l0.length : Int) > 8 then (some 4) else (assign_Right.l0 k l0 l0 (l0.length : Int) 0)) = some r := h
 clear h
 by_cases c2 : (l0.length : Int) > 8
 ·rw [if_pos c2] at H
  have c2b0 : decide (8 < (l0.length : Int)) = true := decide_eq_true c2
  have c2b1 : decide (8 < l0.length) = true := decide_eq_true (by omega)
  clear c2
  obtain rfl := Option.some.inj H
  go_enter Try.func39, Try.ntmps39
  go_wp2
  go_ret
  exact ⟨by first | rfl | (simp; done) | (simp [*]; done), by repeat (first | exact Drawn0.refl _ | apply Drawn0.step)⟩
 ·rw [if_neg c2] at H
  have c2b0 : decide (8 < (l0.length : Int)) = false := decide_eq_false c2
  have c2b1 : decide (8 < l0.length) = false := decide_eq_false (by omega)
  clear c2
  have H' := Aside0.mk H
  clear H
  go_enter Try.func39, Try.ntmps39
  go_wp2
  go_loopg [16] k (fun kq v16 w' => ∃ (x16_1 : Int), v16 = .int .i64 x16_1 ∧ Aside0 (assign_Right.l0 kq l0 l0 (l0.length : Int) x16_1 = some r) ∧ Aside0 (kq ≤ k) ∧ Drawn0 w w')
  case atStart => exact ⟨(0), (by first | rfl | (simp; done) | (simp [*]; done)), H', ⟨Nat.le_refl _⟩, by repeat (first | exact Drawn0.refl _ | apply Drawn0.step)⟩
  case round =>
   clear H'
   try clear c2
   try clear c2b0
   try clear c2b1
   try clear p2
   obtain ⟨x16_1, rfl, HA, HK1, ⟨m1, rfl⟩⟩ := hrel
   cases gk with
   | zero => exact absurd HA.out (by simp [assign_Right.l0])
   | succ k1 =>
    have H := HA.out
    clear HA
    simp only [assign_Right.l0] at H
    by_cases c3 : x16_1 < (l0.length : Int)
    ·rw [if_pos c3] at H
     have c3b0 : decide (x16_1 < (l0.length : Int)) = true := decide_eq_true c3
     clear c3
     by_cases c4 : 0 ≤ x16_1
     ·rw [if_pos c4] at H
      have c4b0 : decide (0 ≤ x16_1) = true := decide_eq_true c4
      clear c4
      by_cases c5 : x16_1 < (l0.length : Int)
      ·rw [if_pos c5] at H
       have c5b0 : decide (x16_1 < (l0.length : Int)) = true := decide_eq_true c5
       clear c5
       by_cases c6 : ((rd_L3 l0 x16_1).length : Int) > 8
       ·rw [if_pos c6] at H
        have c6b0 : decide (8 < ((rd_L3 l0 x16_1).length : Int)) = true := decide_eq_true c6
        have c6b1 : decide (8 < (rd_L3 l0 x16_1).length) = true := decide_eq_true (by omega)
        clear c6
        obtain rfl := Option.some.inj H
        have p377 : 0 ≤ (x16_1 : Int) := of_decide_eq_true (by first | (with_reducible assumption) | assumption)
        have q377 : x16_1 < (l0.length : Int) := of_decide_eq_true (by first | (with_reducible assumption) | assumption)
        obtain ⟨ad377, A377_0, c377_0, e377, hx377_0, hl377_0, hi377_0⟩ := at_L3 HR0.out x16_1 p377 q377
        cases e377
        have HR377_0 := Aside0.mk hi377_0
        have HC377_0 := Aside0.mk hl377_0
        clear hi377_0 hl377_0
        replace p377 := eq_true p377
        replace q377 := eq_true q377
        go_wp2
        go_ret
        exact ⟨by first | rfl | (simp; done) | (simp [*]; done), by repeat (first | exact Drawn0.refl _ | apply Drawn0.step)⟩
       ·rw [if_neg c6] at H
        have c6b0 : decide (8 < ((rd_L3 l0 x16_1).length : Int)) = false := decide_eq_false c6
        have c6b1 : decide (8 < (rd_L3 l0 x16_1).length) = false := decide_eq_false (by omega)
        clear c6
        have H' := Aside0.mk H
        clear H
        have p377 : 0 ≤ (x16_1 : Int) := of_decide_eq_true (by first | (with_reducible assumption) | assumption)
        have q377 : x16_1 < (l0.length : Int) := of_decide_eq_true (by first | (with_reducible assumption) | assumption)
        obtain ⟨ad377, A377_0, c377_0, e377, hx377_0, hl377_0, hi377_0⟩ := at_L3 HR0.out x16_1 p377 q377
        cases e377
        have HR377_0 := Aside0.mk hi377_0
        have HC377_0 := Aside0.mk hl377_0
        clear hi377_0 hl377_0
        replace p377 := eq_true p377
        replace q377 := eq_true q377
        go_wp2
        go_roundg k1
        case measure => have := HK1.out; omega
        case rel => exact ⟨(wrap64 (x16_1 + 1)), (by first | rfl | (simp; done) | (simp [*]; done)), H', ⟨by have := HK1.out; omega⟩, by repeat (first | exact Drawn0.refl _ | apply Drawn0.step)⟩
      ·rw [if_neg c5] at H
       exact absurd H (by simp)
     ·rw [if_neg c4] at H
      exact absurd H (by simp)
    ·rw [if_neg c3] at H
     have c3b0 : decide (x16_1 < (l0.length : Int)) = false := decide_eq_false c3
     clear c3
     have H' := Aside0.mk H
     clear H
     go_wp2
     go_loopg [26] k1 (fun kq v26 w' => ∃ (x26_2 : Int), v26 = .int .i64 x26_2 ∧ Aside0 (assign_Right.l1 kq l0 l0 (l0.length : Int) x26_2 = some r) ∧ Aside0 (kq ≤ k1) ∧ Drawn0 w w')
     case atStart => exact ⟨(0), (by first | rfl | (simp; done) | (simp [*]; done)), H', ⟨Nat.le_refl _⟩, by repeat (first | exact Drawn0.refl _ | apply Drawn0.step)⟩
     case round =>
      clear H'
      try clear c2
      try clear c2b0
      try clear c2b1
      try clear p2
      try clear c3
      try clear c3b0
      try clear p3
      try clear q3
      try clear hx3
      try clear c4
      try clear c4b0
      try clear c5
      try clear c5b0
      try clear c6
      try clear c6b0
      try clear c6b1
      try clear p6
      try clear hx377_0
      try clear p2
      try clear p377
      try clear q377
      obtain ⟨x26_2, rfl, HA, HK2, ⟨m2, rfl⟩⟩ := hrel
      cases gk with
      | zero => exact absurd HA.out (by simp [assign_Right.l1])
      | succ k2 =>
       have H := HA.out
       clear HA
       simp only [assign_Right.l1] at H
       by_cases c7 : x26_2 < (l0.length : Int)
       ·rw [if_pos c7] at H
        have c7b0 : decide (x26_2 < (l0.length : Int)) = true := decide_eq_true c7
        clear c7
        by_cases c8 : 0 ≤ x26_2
        ·rw [if_pos c8] at H
         have c8b0 : decide (0 ≤ x26_2) = true := decide_eq_true c8
         clear c8
         by_cases c9 : x26_2 < (l0.length : Int)
         ·rw [if_pos c9] at H
          have c9b0 : decide (x26_2 < (l0.length : Int)) = true := decide_eq_true c9
          clear c9
          by_cases c10 : 0 < (l0.length : Int)
          ·rw [if_pos c10] at H
           have c10b0 : decide (0 < (l0.length : Int)) = true := decide_eq_true c10
           have c10b1 : decide (0 < l0.length) = true := decide_eq_true (by omega)
           clear c10
           by_cases c11 : ((rd_L3 l0 x26_2).length : Int) = ((rd_L3 l0 0).length : Int)
           ·rw [if_pos c11] at H
            have c11b0 : (((rd_L3 l0 x26_2).length : Int) == ((rd_L3 l0 0).length : Int)) = true := beq_iff_eq.mpr c11
            have c11b1 : (((rd_L3 l0 x26_2).length : Int) != ((rd_L3 l0 0).length : Int)) = false := bne_eq_false_iff_eq.mpr c11
            have c11b2 : ((rd_L3 l0 x26_2).length == (rd_L3 l0 0).length) = true := by first | simpa using c11 | (simp at c11 ⊢; omega)
            clear c11
            by_cases c12 : ((rd_L3 l0 x26_2).length : Int) < (l0.length : Int)
            ·rw [if_pos c12] at H
             have c12b0 : decide (((rd_L3 l0 x26_2).length : Int) < (l0.length : Int)) = true := decide_eq_true c12
             have c12b1 : decide ((rd_L3 l0 x26_2).length < l0.length) = true := decide_eq_true (Int.ofNat_lt.mp c12)
             clear c12
             obtain rfl := Option.some.inj H
             have p378 : 0 ≤ (x26_2 : Int) := of_decide_eq_true (by first | (with_reducible assumption) | assumption)
             have q378 : x26_2 < (l0.length : Int) := of_decide_eq_true (by first | (with_reducible assumption) | assumption)
             obtain ⟨ad378, A378_0, c378_0, e378, hx378_0, hl378_0, hi378_0⟩ := at_L3 HR0.out x26_2 p378 q378
             cases e378
             have HR378_0 := Aside0.mk hi378_0
             have HC378_0 := Aside0.mk hl378_0
             clear hi378_0 hl378_0
             replace p378 := eq_true p378
             replace q378 := eq_true q378
             have p379 : 0 ≤ (0 : Int) := (by omega)
             have q379 : 0 < (l0.length : Int) := of_decide_eq_true (by first | (with_reducible assumption) | assumption)
             obtain ⟨ad379, A379_0, c379_0, e379, hx379_0, hl379_0, hi379_0⟩ := at_L3 HR0.out 0 p379 q379
             obtain rfl : ad378 = ad379 := (by injection e379)
             have qi379 : (0 < l0.length) = True := eq_true (by omega)
             (try rw [show ((0 : Int)).toNat = 0 from rfl] at hx379_0)
             (try rw [Addr.add_zero'] at hx379_0)
             have HR379_0 := Aside0.mk hi379_0
             have HC379_0 := Aside0.mk hl379_0
             clear hi379_0 hl379_0
             replace p379 := eq_true p379
             replace q379 := eq_true q379
             go_wp2
             go_ret
             exact ⟨by first | rfl | (simp; done) | (simp [*]; done), by repeat (first | exact Drawn0.refl _ | apply Drawn0.step)⟩
            ·rw [if_neg c12] at H
             have c12b0 : decide (((rd_L3 l0 x26_2).length : Int) < (l0.length : Int)) = false := decide_eq_false c12
             have c12b1 : decide ((rd_L3 l0 x26_2).length < l0.length) = false := decide_eq_false (fun h => c12 (Int.ofNat_lt.mpr h))
             clear c12
             have H' := Aside0.mk H
             clear H
             have p378 : 0 ≤ (x26_2 : Int) := of_decide_eq_true (by first | (with_reducible assumption) | assumption)
             have q378 : x26_2 < (l0.length : Int) := of_decide_eq_true (by first | (with_reducible assumption) | assumption)
             obtain ⟨ad378, A378_0, c378_0, e378, hx378_0, hl378_0, hi378_0⟩ := at_L3 HR0.out x26_2 p378 q378
             cases e378
             have HR378_0 := Aside0.mk hi378_0
             have HC378_0 := Aside0.mk hl378_0
             clear hi378_0 hl378_0
             replace p378 := eq_true p378
             replace q378 := eq_true q378
             have p379 : 0 ≤ (0 : Int) := (by omega)
             have q379 : 0 < (l0.length : Int) := of_decide_eq_true (by first | (with_reducible assumption) | assumption)
             obtain ⟨ad379, A379_0, c379_0, e379, hx379_0, hl379_0, hi379_0⟩ := at_L3 HR0.out 0 p379 q379
             obtain rfl : ad378 = ad379 := (by injection e379)
             have qi379 : (0 < l0.length) = True := eq_true (by omega)
             (try rw [show ((0 : Int)).toNat = 0 from rfl] at hx379_0)
             (try rw [Addr.add_zero'] at hx379_0)
             have HR379_0 := Aside0.mk hi379_0
             have HC379_0 := Aside0.mk hl379_0
             clear hi379_0 hl379_0
             replace p379 := eq_true p379
             replace q379 := eq_true q379
             go_wp2
             go_roundg k2
             case measure => have := HK1.out; have := HK2.out; omega
             case rel => exact ⟨(wrap64 (x26_2 + 1)), (by first | rfl | (simp; done) | (simp [*]; done)), H', ⟨by have := HK1.out; have := HK2.out; omega⟩, by repeat (first | exact Drawn0.refl _ | apply Drawn0.step)⟩
           ·rw [if_neg c11] at H
            have c11b0 : (((rd_L3 l0 x26_2).length : Int) == ((rd_L3 l0 0).length : Int)) = false := beq_eq_false_iff_ne.mpr c11
            have c11b1 : (((rd_L3 l0 x26_2).length : Int) != ((rd_L3 l0 0).length : Int)) = true := bne_iff_ne.mpr c11
            have c11b2 : ((rd_L3 l0 x26_2).length == (rd_L3 l0 0).length) = false := by first | simpa using c11 | (simp at c11 ⊢; omega)
            obtain rfl := Option.some.inj H
            have p378 : 0 ≤ (x26_2 : Int) := of_decide_eq_true (by first | (with_reducible assumption) | assumption)
            have q378 : x26_2 < (l0.length : Int) := of_decide_eq_true (by first | (with_reducible assumption) | assumption)
            obtain ⟨ad378, A378_0, c378_0, e378, hx378_0, hl378_0, hi378_0⟩ := at_L3 HR0.out x26_2 p378 q378
            cases e378
            have HR378_0 := Aside0.mk hi378_0
            have HC378_0 := Aside0.mk hl378_0
            clear hi378_0 hl378_0
            replace p378 := eq_true p378
            replace q378 := eq_true q378
            have p379 : 0 ≤ (0 : Int) := (by omega)
            have q379 : 0 < (l0.length : Int) := of_decide_eq_true (by first | (with_reducible assumption) | assumption)
            obtain ⟨ad379, A379_0, c379_0, e379, hx379_0, hl379_0, hi379_0⟩ := at_L3 HR0.out 0 p379 q379
            obtain rfl : ad378 = ad379 := (by injection e379)
            have qi379 : (0 < l0.length) = True := eq_true (by omega)
            (try rw [show ((0 : Int)).toNat = 0 from rfl] at hx379_0)
            (try rw [Addr.add_zero'] at hx379_0)
            have HR379_0 := Aside0.mk hi379_0
            have HC379_0 := Aside0.mk hl379_0
            clear hi379_0 hl379_0
            replace p379 := eq_true p379
            replace q379 := eq_true q379
            go_wp2
            go_ret
            exact ⟨by first | rfl | (simp; done) | (simp [*]; done), by repeat (first | exact Drawn0.refl _ | apply Drawn0.step)⟩
          ·rw [if_neg c10] at H
           exact absurd H (by simp)
         ·rw [if_neg c9] at H
          exact absurd H (by simp)
        ·rw [if_neg c8] at H
         exact absurd H (by simp)
       ·rw [if_neg c7] at H
        have c7b0 : decide (x26_2 < (l0.length : Int)) = false := decide_eq_false c7
        clear c7
        have H' := Aside0.mk H
        clear H
        go_wp2
        go_loopg [47] k2 (fun kq v47 w' => ∃ (x47_3 : Int), v47 = .int .i64 x47_3 ∧ Aside0 (assign_Right.l2 kq l0 (l0.length : Int) x47_3 = some r) ∧ Aside0 (kq ≤ k2) ∧ Drawn0 w w')
        case atStart => exact ⟨(0), (by first | rfl | (simp; done) | (simp [*]; done)), H', ⟨Nat.le_refl _⟩, by repeat (first | exact Drawn0.refl _ | apply Drawn0.step)⟩
        case round =>
         clear H'
         try clear c1
         try clear c2
         try clear c2b0
         try clear c2b1
         try clear p2
         try clear c3
         try clear c3b0
         try clear p3
         try clear q3
         try clear hx3
         try clear qi3
         try clear c4
         try clear c4b0
         try clear c5
         try clear c5b0
         try clear c6
         try clear c6b0
         try clear c6b1
         try clear p6
         try clear c7
         try clear c7b0
         try clear c8
         try clear c8b0
         try clear c9
         try clear c9b0
         try clear c10
         try clear c10b0
         try clear c10b1
         try clear c11
         try clear c11b0
         try clear c11b1
         try clear c11b2
         try clear c12
         try clear c12b0
         try clear c12b1
         try clear hx377_0
         try clear hx378_0
         try clear hx379_0
         try clear p2
         try clear p3
         try clear p377
         try clear p378
         try clear p379
         try clear p6
         try clear q3
         try clear q377
         try clear q378
         try clear q379
         obtain ⟨x47_3, rfl, HA, HK3, ⟨m3, rfl⟩⟩ := hrel
         cases gk with
         | zero => exact absurd HA.out (by simp [assign_Right.l2])
         | succ k3 =>
          have H := HA.out
          clear HA
          simp only [assign_Right.l2] at H
          by_cases c13 : x47_3 < (l0.length : Int)
          ·rw [if_pos c13] at H
           have c13b0 : decide (x47_3 < (l0.length : Int)) = true := decide_eq_true c13
           clear c13
           by_cases c14 : 0 ≤ x47_3
           ·rw [if_pos c14] at H
            have c14b0 : decide (0 ≤ x47_3) = true := decide_eq_true c14
            clear c14
            by_cases c15 : x47_3 < (l0.length : Int)
            ·rw [if_pos c15] at H
             have c15b0 : decide (x47_3 < (l0.length : Int)) = true := decide_eq_true c15
             clear c15
             have H' := Aside0.mk H
             clear H
             have p380 : 0 ≤ (x47_3 : Int) := of_decide_eq_true (by first | (with_reducible assumption) | assumption)
             have q380 : x47_3 < (l0.length : Int) := of_decide_eq_true (by first | (with_reducible assumption) | assumption)
             obtain ⟨ad380, A380_0, c380_0, e380, hx380_0, hl380_0, hi380_0⟩ := at_L3 HR0.out x47_3 p380 q380
             cases e380
             have HR380_0 := Aside0.mk hi380_0
             have HC380_0 := Aside0.mk hl380_0
             clear hi380_0 hl380_0
             replace p380 := eq_true p380
             replace q380 := eq_true q380
             go_wp2
             go_loopg [53] k3 (fun kq v53 w' => ∃ (x53_4 : Int), v53 = .int .i64 x53_4 ∧ Aside0 (assign_Right.l3 kq l0 (l0.length : Int) x47_3 (rd_L3 l0 x47_3) ((rd_L3 l0 x47_3).length : Int) x53_4 = some r) ∧ Aside0 (kq ≤ k3) ∧ Drawn0 w w')
             case atStart => exact ⟨(0), (by first | rfl | (simp; done) | (simp [*]; done)), H', ⟨Nat.le_refl _⟩, by repeat (first | exact Drawn0.refl _ | apply Drawn0.step)⟩
             case round =>
              clear H'
              try clear c1
              try clear c2
              try clear c2b0
              try clear c2b1
              try clear p2
              try clear c3
              try clear c3b0
              try clear p3
              try clear q3
              try clear hx3
              try clear qi3
              try clear c4
              try clear c4b0
              try clear c5
              try clear c5b0
              try clear c6
              try clear c6b0
              try clear c6b1
              try clear p6
              try clear c7
              try clear c7b0
              try clear c8
              try clear c8b0
              try clear c9
              try clear c9b0
              try clear c10
              try clear c10b0
              try clear c10b1
              try clear c11
              try clear c11b0
              try clear c11b1
              try clear c11b2
              try clear c12
              try clear c12b0
              try clear c12b1
              try clear c13
              try clear c13b0
              try clear c14
              try clear c14b0
              try clear c15
              try clear c15b0
              try clear hx377_0
              try clear hx378_0
              try clear hx379_0
              try clear hx380_0
              try clear p2
              try clear p3
              try clear p377
              try clear p378
              try clear p379
              try clear p380
              try clear p6
              try clear q3
              try clear q377
              try clear q378
              try clear q379
              try clear q380
              obtain ⟨x53_4, rfl, HA, HK4, ⟨m4, rfl⟩⟩ := hrel
              cases gk with
              | zero => exact absurd HA.out (by simp [assign_Right.l3])
              | succ k4 =>
               have H := HA.out
               clear HA
               simp only [assign_Right.l3] at H
               by_cases c16 : x53_4 < ((rd_L3 l0 x47_3).length : Int)
               ·rw [if_pos c16] at H
                have c16b0 : decide (x53_4 < ((rd_L3 l0 x47_3).length : Int)) = true := decide_eq_true c16
                clear c16
                by_cases c17 : 0 ≤ x53_4
                ·rw [if_pos c17] at H
                 have c17b0 : decide (0 ≤ x53_4) = true := decide_eq_true c17
                 clear c17
                 by_cases c18 : x53_4 < ((rd_L3 l0 x47_3).length : Int)
                 ·rw [if_pos c18] at H
                  have c18b0 : decide (x53_4 < ((rd_L3 l0 x47_3).length : Int)) = true := decide_eq_true c18
                  clear c18
                  by_cases c19 : (rd (rd_L3 l0 x47_3) x53_4) < 0
                  ·rw [if_pos c19] at H
                   have c19b0 : decide ((rd (rd_L3 l0 x47_3) x53_4) < 0) = true := decide_eq_true c19
                   clear c19
                   obtain rfl := Option.some.inj H
                   have p381 : 0 ≤ (x53_4 : Int) := of_decide_eq_true (by first | (with_reducible assumption) | assumption)
                   have q381 : x53_4 < ((rd_L3 l0 x47_3).length : Int) := of_decide_eq_true (by first | (with_reducible assumption) | assumption)
                   obtain ⟨ad381, e381, hx381_0⟩ := Kd.at_int HR380_0.out x53_4 p381 q381
                   cases e381
                   replace p381 := eq_true p381
                   replace q381 := eq_true q381
                   go_wp2
                   go_ret
                   exact ⟨by first | rfl | (simp; done) | (simp [*]; done), by repeat (first | exact Drawn0.refl _ | apply Drawn0.step)⟩
                  ·rw [if_neg c19] at H
                   have c19b0 : decide ((rd (rd_L3 l0 x47_3) x53_4) < 0) = false := decide_eq_false c19
                   clear c19
                   by_cases c20 : (rd (rd_L3 l0 x47_3) x53_4) > 1000000
                   ·rw [if_pos c20] at H
                    have c20b0 : decide (1000000 < (rd (rd_L3 l0 x47_3) x53_4)) = true := decide_eq_true c20
                    clear c20
                    obtain rfl := Option.some.inj H
                    have p381 : 0 ≤ (x53_4 : Int) := of_decide_eq_true (by first | (with_reducible assumption) | assumption)
                    have q381 : x53_4 < ((rd_L3 l0 x47_3).length : Int) := of_decide_eq_true (by first | (with_reducible assumption) | assumption)
                    obtain ⟨ad381, e381, hx381_0⟩ := Kd.at_int HR380_0.out x53_4 p381 q381
                    cases e381
                    replace p381 := eq_true p381
                    replace q381 := eq_true q381
                    go_wp2
                    go_ret
                    exact ⟨by first | rfl | (simp; done) | (simp [*]; done), by repeat (first | exact Drawn0.refl _ | apply Drawn0.step)⟩
                   ·rw [if_neg c20] at H
                    have c20b0 : decide (1000000 < (rd (rd_L3 l0 x47_3) x53_4)) = false := decide_eq_false c20
                    clear c20
                    have H' := Aside0.mk H
                    clear H
                    have p381 : 0 ≤ (x53_4 : Int) := of_decide_eq_true (by first | (with_reducible assumption) | assumption)
                    have q381 : x53_4 < ((rd_L3 l0 x47_3).length : Int) := of_decide_eq_true (by first | (with_reducible assumption) | assumption)
                    obtain ⟨ad381, e381, hx381_0⟩ := Kd.at_int HR380_0.out x53_4 p381 q381
                    cases e381
                    replace p381 := eq_true p381
                    replace q381 := eq_true q381
                    go_wp2
                    go_roundg k4
                    case measure => have := HK1.out; have := HK2.out; have := HK3.out; have := HK4.out; omega
                    case rel => exact ⟨(wrap64 (x53_4 + 1)), (by first | rfl | (simp; done) | (simp [*]; done)), H', ⟨by have := HK1.out; have := HK2.out; have := HK3.out; have := HK4.out; omega⟩, by repeat (first | exact Drawn0.refl _ | apply Drawn0.step)⟩
                 ·rw [if_neg c18] at H
                  exact absurd H (by simp)
                ·rw [if_neg c17] at H
                 exact absurd H (by simp)
               ·rw [if_neg c16] at H
                have c16b0 : decide (x53_4 < ((rd_L3 l0 x47_3).length : Int)) = false := decide_eq_false c16
                clear c16
                have H' := Aside0.mk H
                clear H
                go_wp2
                go_roundg k4
                case measure => have := HK1.out; have := HK2.out; have := HK3.out; have := HK4.out; omega
                case rel => exact ⟨(wrap64 (x47_3 + 1)), (by first | rfl | (simp; done) | (simp [*]; done)), H', ⟨by have := HK1.out; have := HK2.out; have := HK3.out; have := HK4.out; omega⟩, by repeat (first | exact Drawn0.refl _ | apply Drawn0.step)⟩
            ·rw [if_neg c15] at H
             exact absurd H (by simp)
           ·rw [if_neg c14] at H
            exact absurd H (by simp)
          ·rw [if_neg c13] at H
           have c13b0 : decide (x47_3 < (l0.length : Int)) = false := decide_eq_false c13
           clear c13
           obtain rfl := Option.some.inj H
           go_wp2
           go_ret
           exact ⟨by first | rfl | (simp; done) | (simp [*]; done), by repeat (first | exact Drawn0.refl _ | apply Drawn0.step)⟩

end Go.Proofs.Ytefinjjcbpdljaa.PB
