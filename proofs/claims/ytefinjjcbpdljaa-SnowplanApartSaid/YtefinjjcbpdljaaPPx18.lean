-- Written by a program of this session over the translation (wip/tools/pprint.py). Not trusted: Lean checks it.
-- halved
import Derived.Test.YtefinjjcbpdljaaPPxD
import Derived.Test.YtefinjjcbpdljaaPPx5
import Derived.Test.YtefinjjcbpdljaaPPx8
import Derived.Test.YtefinjjcbpdljaaPPx9
namespace Go.Proofs.Ytefinjjcbpdljaa.PB
open Go.RowKit Go.Proofs.YtefinjjcbpdljaaW.PrintWords Go.Proofs.YtefinjjcbpdljaaW.PrintLast Go.Proofs.YtefinjjcbpdljaaW.PrintMore
attribute [local go_sem] max2_int min2_int max_two min_two max_three min_three max_four min_four   -- for this text's walks alone
set_option linter.unusedVariables false
set_option linter.unusedSimpArgs false

/-! ### skiarealaw43_SnowplanApart: function 10 -/
theorem skiarealaw43_SnowplanApart.mono_l : ∀ k, (∀ y0 y1 y2 y3, LeO (skiarealaw43_SnowplanApart.j0 k y0 y1 y2 y3) (skiarealaw43_SnowplanApart.j0 (k + 1) y0 y1 y2 y3)) ∧ (∀ y0 y1 y2 y3, LeO (skiarealaw43_SnowplanApart.l0 k y0 y1 y2 y3) (skiarealaw43_SnowplanApart.l0 (k + 1) y0 y1 y2 y3)) ∧ (∀ y0 y1 y2 y3 y4, LeO (skiarealaw43_SnowplanApart.l1 k y0 y1 y2 y3 y4) (skiarealaw43_SnowplanApart.l1 (k + 1) y0 y1 y2 y3 y4))
 | 0 => ⟨fun _ _ _ _ r h => by simp [skiarealaw43_SnowplanApart.j0] at h, fun _ _ _ _ r h => by simp [skiarealaw43_SnowplanApart.l0] at h, fun _ _ _ _ _ r h => by simp [skiarealaw43_SnowplanApart.l1] at h⟩
 | k + 1 => by
  obtain ⟨ih0, ih1, ih2⟩ := skiarealaw43_SnowplanApart.mono_l k
  refine ⟨?_, ?_, ?_⟩
  ·intro y0 y1 y2 y3
   unfold skiarealaw43_SnowplanApart.j0
   repeat' first
   | (with_reducible exact ih0 _ _ _ _)
   | (with_reducible exact ih1 _ _ _ _)
   | (with_reducible exact ih2 _ _ _ _ _)
   | (with_reducible exact skiarealaw43_alive.mono _)
   | (with_reducible exact snowplan_Greatest.mono _ _ _ _)
   | (with_reducible exact snowplan_Right.mono _ _ _)
   | (with_reducible exact LeO.refl _)
   | (with_reducible exact LeO.none _)
   | (with_reducible refine LeO.ite ?_ ?_)
   | (with_reducible refine LeO.bind ?_ (fun _ => ?_))
   | exact ih0 _ _ _ _
   | exact ih1 _ _ _ _
   | exact ih2 _ _ _ _ _
   | exact skiarealaw43_alive.mono _
   | exact snowplan_Greatest.mono _ _ _ _
   | exact snowplan_Right.mono _ _ _
   | exact LeO.none _
   | refine LeO.ite ?_ ?_
   | refine LeO.bind ?_ (fun _ => ?_)
  ·intro y0 y1 y2 y3
   unfold skiarealaw43_SnowplanApart.l0
   repeat' first
   | (with_reducible exact ih0 _ _ _ _)
   | (with_reducible exact ih1 _ _ _ _)
   | (with_reducible exact ih2 _ _ _ _ _)
   | (with_reducible exact skiarealaw43_alive.mono _)
   | (with_reducible exact snowplan_Greatest.mono _ _ _ _)
   | (with_reducible exact snowplan_Right.mono _ _ _)
   | (with_reducible exact LeO.refl _)
   | (with_reducible exact LeO.none _)
   | (with_reducible refine LeO.ite ?_ ?_)
   | (with_reducible refine LeO.bind ?_ (fun _ => ?_))
   | exact ih0 _ _ _ _
   | exact ih1 _ _ _ _
   | exact ih2 _ _ _ _ _
   | exact skiarealaw43_alive.mono _
   | exact snowplan_Greatest.mono _ _ _ _
   | exact snowplan_Right.mono _ _ _
   | exact LeO.none _
   | refine LeO.ite ?_ ?_
   | refine LeO.bind ?_ (fun _ => ?_)
  ·intro y0 y1 y2 y3 y4
   unfold skiarealaw43_SnowplanApart.l1
   repeat' first
   | (with_reducible exact ih0 _ _ _ _)
   | (with_reducible exact ih1 _ _ _ _)
   | (with_reducible exact ih2 _ _ _ _ _)
   | (with_reducible exact skiarealaw43_alive.mono _)
   | (with_reducible exact snowplan_Greatest.mono _ _ _ _)
   | (with_reducible exact snowplan_Right.mono _ _ _)
   | (with_reducible exact LeO.refl _)
   | (with_reducible exact LeO.none _)
   | (with_reducible refine LeO.ite ?_ ?_)
   | (with_reducible refine LeO.bind ?_ (fun _ => ?_))
   | exact ih0 _ _ _ _
   | exact ih1 _ _ _ _
   | exact ih2 _ _ _ _ _
   | exact skiarealaw43_alive.mono _
   | exact snowplan_Greatest.mono _ _ _ _
   | exact snowplan_Right.mono _ _ _
   | exact LeO.none _
   | refine LeO.ite ?_ ?_
   | refine LeO.bind ?_ (fun _ => ?_)
theorem skiarealaw43_SnowplanApart.mono : ∀ a0 a1 a2 k, LeO (skiarealaw43_SnowplanApart.f k a0 a1 a2) (skiarealaw43_SnowplanApart.f (k + 1) a0 a1 a2) := by
 intro a0 a1 a2 k
 obtain ⟨ih0, ih1, ih2⟩ := skiarealaw43_SnowplanApart.mono_l k
 unfold skiarealaw43_SnowplanApart.f
 repeat' first
   | (with_reducible exact ih0 _ _ _ _)
   | (with_reducible exact ih1 _ _ _ _)
   | (with_reducible exact ih2 _ _ _ _ _)
   | (with_reducible exact skiarealaw43_alive.mono _)
   | (with_reducible exact snowplan_Greatest.mono _ _ _ _)
   | (with_reducible exact snowplan_Right.mono _ _ _)
   | (with_reducible exact LeO.refl _)
   | (with_reducible exact LeO.none _)
   | (with_reducible refine LeO.ite ?_ ?_)
   | (with_reducible refine LeO.bind ?_ (fun _ => ?_))
   | exact ih0 _ _ _ _
   | exact ih1 _ _ _ _
   | exact ih2 _ _ _ _ _
   | exact skiarealaw43_alive.mono _
   | exact snowplan_Greatest.mono _ _ _ _
   | exact snowplan_Right.mono _ _ _
   | exact LeO.none _
   | refine LeO.ite ?_ ?_
   | refine LeO.bind ?_ (fun _ => ?_)
set_option maxHeartbeats 8000000 in
set_option maxRecDepth 100000 in
theorem skiarealaw43_SnowplanApart.calls (k : Nat) (A0 : Option Addr) (c0 : Nat) (l0 : List (S42)) (A1 : Option Addr) (c1 : Nat) (l1 : List (S39)) (a2 : Int) (r : Bool) (w : World) (hr0 : Kd.C k42 w A0 l0.length l0) (hc0 : l0.length ≤ c0) (hr1 : Kd.C k39 w A1 l1.length l1) (hc1 : l1.length ≤ c1) (h : skiarealaw43_SnowplanApart.f k l0 l1 a2 = some r) :
  Calls Try.prog 10 #[.slice A0 l0.length c0, .slice A1 l1.length c1, .int .u16 a2] w fun e w' => e = .returned (.bool r) ∧ Below w.heap.size w w' := by
 have HR0 := Aside0.mk hr0
 have HC0 := Aside0.mk hc0
 clear hr0 hc0
 have HR1 := Aside0.mk hr1
 have HC1 := Aside0.mk hc1
 clear hr1 hc1
 have HB := Aside0.mk (Below.refl w.heap.size w)
 have H : ((skiarealaw43_alive.f k).bind fun t349 => (if t349 = true then (if (l0.length : Int) > 5 then (skiarealaw43_SnowplanApart.j0 k l0 l1 a2 true) else (if (l1.length : Int) > 3 then (skiarealaw43_SnowplanApart.j0 k l0 l1 a2 true) else ((snowplan_Right.f k l0 l1).bind fun t350 => (skiarealaw43_SnowplanApart.j0 k l0 l1 a2 (t350 != 0))))) else (none))) = some r := h
 clear h
 replace H := Option.bind_eq_some_iff.mp H
 obtain ⟨t349, A40, H⟩ := H
 replace H : (if t349 = true then (if (l0.length : Int) > 5 then (skiarealaw43_SnowplanApart.j0 k l0 l1 a2 true) else (if (l1.length : Int) > 3 then (skiarealaw43_SnowplanApart.j0 k l0 l1 a2 true) else ((snowplan_Right.f k l0 l1).bind fun t350 => (skiarealaw43_SnowplanApart.j0 k l0 l1 a2 (t350 != 0))))) else (none)) = some r := H
 have A4 := Aside0.mk A40
 clear A40
 by_cases c5 : t349 = true
 ·subst c5
  have H1 : (if (l0.length : Int) > 5 then (skiarealaw43_SnowplanApart.j0 k l0 l1 a2 true) else (if (l1.length : Int) > 3 then (skiarealaw43_SnowplanApart.j0 k l0 l1 a2 true) else ((snowplan_Right.f k l0 l1).bind fun t350 => (skiarealaw43_SnowplanApart.j0 k l0 l1 a2 (t350 != 0))))) = some r := by rw [if_pos rfl] at H; exact H
  clear H
  have H := H1
  clear H1
  have HC6 := Aside0.mk H
  clear H
  go_enter Try.func10, Try.ntmps10
  go_upto_region 3 with (first | ((with_reducible refine gate_callee (f := 17) rfl ?_); refine goesL_ (some 11) rfl rfl Try.func17 (by kernel_rfl) rfl #[] rfl (by (try simp only [List.map_toArray, List.map_cons, List.map_nil]); first | done | rfl | (simp only [List.length_drop, List.length_take]; rfl)) ?_; (with_reducible refine (skiarealaw43_alive.calls k  true _ A4.out).mono ?_); rintro e w7 ⟨rfl, hb⟩; refine ⟨_, rfl, ?_⟩; have n0_ := Aside0.mk (below_step (by repeat (first | (with_reducible first | exact HB.out | apply below_alloc | apply pw_below_drewN | apply below_drew1) | exact HB.out)) hb); clear HB; have HB := n0_; clear n0_; (try clear hb); (try clear hb2); (try clear hk); (try clear hi)))
  (try simp only [Act.put, List.setIfInBounds_toArray, List.set_cons_zero, List.set_cons_succ])
  go_cut [26] (fun v26 wc => ∃ (kq : Nat) (x26_5 : Bool), v26 = .bool x26_5 ∧ Aside0 (skiarealaw43_SnowplanApart.j0 kq l0 l1 a2 x26_5 = some r) ∧ Aside0 (kq ≤ k) ∧ Aside0 (Below w.heap.size w wc))
  case first =>
   have H := HC6.out
   clear HC6
   by_cases c8 : (l0.length : Int) > 5
   ·rw [if_pos c8] at H
    have c8b0 : decide (5 < (l0.length : Int)) = true := decide_eq_true c8
    have c8b1 : decide (5 < l0.length) = true := decide_eq_true (by omega)
    clear c8
    (first | rw [c8b0] | (simp only [i64_w, i32_w]; rw [c8b0]) | skip)
    have H' := Aside0.mk H
    clear H
    go_wp2
    go_meet
    case rel => exact ⟨_, (true), (by first | rfl | (simp; done) | (simp [*]; done)), H', ⟨by first | omega | exact Nat.le_refl _⟩, ⟨by repeat (first | (with_reducible first | exact HB.out | apply below_alloc | apply pw_below_drewN | apply below_drew1) | exact HB.out)⟩⟩
   ·rw [if_neg c8] at H
    have c8b0 : decide (5 < (l0.length : Int)) = false := decide_eq_false c8
    have c8b1 : decide (5 < l0.length) = false := decide_eq_false (by omega)
    clear c8
    (first | rw [c8b0] | (simp only [i64_w, i32_w]; rw [c8b0]) | skip)
    by_cases c9 : (l1.length : Int) > 3
    ·rw [if_pos c9] at H
     have c9b0 : decide (3 < (l1.length : Int)) = true := decide_eq_true c9
     have c9b1 : decide (3 < l1.length) = true := decide_eq_true (by omega)
     clear c9
     have H' := Aside0.mk H
     clear H
     go_wp2
     go_meet
     case rel => exact ⟨_, (true), (by first | rfl | (simp; done) | (simp [*]; done)), H', ⟨by first | omega | exact Nat.le_refl _⟩, ⟨by repeat (first | (with_reducible first | exact HB.out | apply below_alloc | apply pw_below_drewN | apply below_drew1) | exact HB.out)⟩⟩
    ·rw [if_neg c9] at H
     have c9b0 : decide (3 < (l1.length : Int)) = false := decide_eq_false c9
     have c9b1 : decide (3 < l1.length) = false := decide_eq_false (by omega)
     clear c9
     replace H := Option.bind_eq_some_iff.mp H
     obtain ⟨t350, A100, H⟩ := H
     replace H : (skiarealaw43_SnowplanApart.j0 k l0 l1 a2 (t350 != 0)) = some r := H
     have A10 := Aside0.mk A100
     clear A100
     have H' := Aside0.mk H
     clear H
     go_wp2_with (first | (go_at_call 18; (with_reducible refine (snowplan_Right.calls k _ _ l0 _ _ l1 t350 _ ?side1 ?side2 ?side3 ?side4 A10.out).mono ?_); (case side1 => repeat (first | exact (Kd.C_below HR0.out HB.out) | (with_reducible refine Kd.C_alloc ?_ _) | (with_reducible refine Kd.C_drewN ?_ _) | (with_reducible refine Kd.C_drew ?_))); (case side2 => exact HC0.out); (case side3 => repeat (first | exact (Kd.C_below HR1.out HB.out) | (with_reducible refine Kd.C_alloc ?_ _) | (with_reducible refine Kd.C_drewN ?_ _) | (with_reducible refine Kd.C_drew ?_))); (case side4 => exact HC1.out); rintro e w11 ⟨rfl, hb⟩; have n0_ := Aside0.mk (below_step (by repeat (first | (with_reducible first | exact HB.out | apply below_alloc | apply pw_below_drewN | apply below_drew1) | exact HB.out)) hb); clear HB; have HB := n0_; clear n0_; (try clear hb); (try clear hb2); (try clear hk); (try clear hi)))
     go_meet
     case rel => exact ⟨_, ((t350 != 0)), (by first | rfl | (simp; done) | (simp [*]; done)), H', ⟨by first | omega | exact Nat.le_refl _⟩, ⟨by repeat (first | (with_reducible first | exact HB.out | apply below_alloc | apply pw_below_drewN | apply below_drew1) | exact HB.out)⟩⟩
  case rest =>
   clear HC6
   try clear c1
   try clear p2
   try clear c5
   try clear c8
   try clear c8b0
   try clear c8b1
   try clear c9
   try clear c9b0
   try clear c9b1
   try clear c10
   obtain ⟨kq, x26_5, rfl, HA, HJ5, HB⟩ := hcut
   cases kq with
   | zero => exact absurd HA.out (by simp [skiarealaw43_SnowplanApart.j0])
   | succ kj5 =>
    have H := HA.out
    clear HA
    simp only [skiarealaw43_SnowplanApart.j0] at H
    by_cases c12 : x26_5 = true
    ·subst c12
     have H1 : (some true) = some r := by rw [if_pos rfl] at H; exact H
     clear H
     have H := H1
     clear H1
     obtain rfl := Option.some.inj H
     go_wp2
     go_ret
     exact ⟨by first | rfl | (simp [errW_none, errW_some] <;> rfl) | (simp [*, errW_none, errW_some] <;> rfl), by repeat (first | (with_reducible first | exact HB.out | apply below_alloc | apply pw_below_drewN | apply below_drew1) | exact HB.out)⟩
    ·replace c12 := Bool.eq_false_iff.mpr c12
     subst c12
     have H1 : (skiarealaw43_SnowplanApart.l0 kj5 l0 l1 (wrap64 (a2)) 0) = some r := by rw [if_neg (show ¬ (false = true) by decide)] at H; exact H
     clear H
     have H := H1
     clear H1
     have H' := Aside0.mk H
     clear H
     go_wp2
     go_loopg [7, 8] kj5 (fun kq v7 v8 w' => ∃ (x7_2 : Int) (x8_2 : Int), v7 = .int .i64 x7_2 ∧ v8 = .int .i64 x8_2 ∧ Aside0 (skiarealaw43_SnowplanApart.l0 kq l0 l1 x7_2 x8_2 = some r) ∧ Aside0 (kq ≤ kj5) ∧ Aside0 (Below w.heap.size w w'))
     case atStart => exact ⟨(wrap64 (a2)), (0), (by first | rfl | (simp; done) | (simp [*]; done)), (by first | rfl | (simp; done) | (simp [*]; done)), H', ⟨Nat.le_refl _⟩, ⟨by repeat (first | (with_reducible first | exact HB.out | apply below_alloc | apply pw_below_drewN | apply below_drew1) | exact HB.out)⟩⟩
     case round =>
      clear H'
      try clear c1
      try clear p2
      try clear c5
      try clear p6
      try clear c8
      try clear c8b0
      try clear c8b1
      try clear c9
      try clear c9b0
      try clear c9b1
      try clear c10
      try clear c12
      try clear p2
      obtain ⟨x7_2, x8_2, rfl, rfl, HA, HK2, HB⟩ := hrel
      cases gk with
      | zero => exact absurd HA.out (by simp [skiarealaw43_SnowplanApart.l0])
      | succ k2 =>
       have H := HA.out
       clear HA
       simp only [skiarealaw43_SnowplanApart.l0] at H
       by_cases c13 : x8_2 < (l0.length : Int)
       ·rw [if_pos c13] at H
        have c13b0 : decide (x8_2 < (l0.length : Int)) = true := decide_eq_true c13
        clear c13
        by_cases c14 : 0 ≤ x8_2
        ·rw [if_pos c14] at H
         have c14b0 : decide (0 ≤ x8_2) = true := decide_eq_true c14
         clear c14
         have H' := Aside0.mk H
         clear H
         have p351 : 0 ≤ (x8_2 : Int) := of_decide_eq_true (by first | (with_reducible assumption) | assumption)
         have q351 : x8_2 < (l0.length : Int) := of_decide_eq_true (by first | (with_reducible assumption) | assumption)
         obtain ⟨ad351, e351, hx351_0, hx351_1, hx351_2, hx351_3⟩ := at_T42 HR0.out x8_2 p351 q351
         cases e351
         replace hx351_0 := (HB.out.cell (World.block_lt_of_cell? w _ hx351_0)).trans hx351_0
         replace hx351_1 := (HB.out.cell (World.block_lt_of_cell? w _ hx351_1)).trans hx351_1
         replace hx351_2 := (HB.out.cell (World.block_lt_of_cell? w _ hx351_2)).trans hx351_2
         replace hx351_3 := (HB.out.cell (World.block_lt_of_cell? w _ hx351_3)).trans hx351_3
         replace p351 := eq_true p351
         replace q351 := eq_true q351
         go_wp2
         go_roundg k2
         case measure => have := HJ5.out; have := HK2.out; omega
         case rel => exact ⟨(wrap64 (x7_2 + (wrap64 (((rd_T42 l0 x8_2).f1) * (l1.length : Int))))), (wrap64 (x8_2 + 1)), (by first | rfl | (simp; done) | (simp [*]; done)), (by first | rfl | (simp; done) | (simp [*]; done)), H', ⟨by have := HJ5.out; have := HK2.out; omega⟩, ⟨by repeat (first | (with_reducible first | exact HB.out | apply below_alloc | apply pw_below_drewN | apply below_drew1) | exact HB.out)⟩⟩
        ·rw [if_neg c14] at H
         exact absurd H (by simp)
       ·rw [if_neg c13] at H
        have c13b0 : decide (x8_2 < (l0.length : Int)) = false := decide_eq_false c13
        clear c13
        have H' := Aside0.mk H
        clear H
        go_wp2
        go_loopg [9, 10] k2 (fun kq v9 v10 w' => ∃ (x9_3 : Int) (x10_3 : Int), v9 = .int .i64 x9_3 ∧ v10 = .int .i64 x10_3 ∧ Aside0 (skiarealaw43_SnowplanApart.l1 kq l0 l1 x7_2 x9_3 x10_3 = some r) ∧ Aside0 (kq ≤ k2) ∧ Aside0 (Below w.heap.size w w'))
        case atStart => exact ⟨(0), (0), (by first | rfl | (simp; done) | (simp [*]; done)), (by first | rfl | (simp; done) | (simp [*]; done)), H', ⟨Nat.le_refl _⟩, ⟨by repeat (first | (with_reducible first | exact HB.out | apply below_alloc | apply pw_below_drewN | apply below_drew1) | exact HB.out)⟩⟩
        case round =>
         clear H'
         try clear c1
         try clear p2
         try clear p3
         try clear q3
         try clear hx3
         try clear c5
         try clear p6
         try clear c8
         try clear c8b0
         try clear c8b1
         try clear c9
         try clear c9b0
         try clear c9b1
         try clear c10
         try clear c12
         try clear c13
         try clear c13b0
         try clear c14
         try clear c14b0
         try clear hx351_0
         try clear hx351_1
         try clear hx351_2
         try clear hx351_3
         try clear p2
         try clear p351
         try clear p6
         try clear q351
         obtain ⟨x9_3, x10_3, rfl, rfl, HA, HK3, HB⟩ := hrel
         cases gk with
         | zero => exact absurd HA.out (by simp [skiarealaw43_SnowplanApart.l1])
         | succ k3 =>
          have H := HA.out
          clear HA
          simp only [skiarealaw43_SnowplanApart.l1] at H
          by_cases c15 : x10_3 < (l1.length : Int)
          ·rw [if_pos c15] at H
           have c15b0 : decide (x10_3 < (l1.length : Int)) = true := decide_eq_true c15
           clear c15
           by_cases c16 : 0 ≤ x10_3
           ·rw [if_pos c16] at H
            have c16b0 := eq_true c16
            have c16b1 : decide (0 ≤ x10_3) = true := decide_eq_true c16
            clear c16
            by_cases c17 : x10_3 ≤ (wrap64 (x10_3 + 1))
            ·rw [if_pos c17] at H
             have c17b0 := eq_true c17
             have c17b1 : decide (x10_3 ≤ (wrap64 (x10_3 + 1))) = true := decide_eq_true c17
             by_cases c18 : (wrap64 (x10_3 + 1)) ≤ (l1.length : Int)
             ·rw [if_pos c18] at H
              have c18b0 := eq_true c18
              have c18b1 : decide ((wrap64 (x10_3 + 1)) ≤ (l1.length : Int)) = true := decide_eq_true c18
              obtain ⟨y352, hy352⟩ : ∃ y_ : List (S39), y_ = ((l1.take ((wrap64 (x10_3 + 1)) : Int).toNat).drop (x10_3 : Int).toNat) := ⟨_, rfl⟩
              replace H : ((snowplan_Greatest.f k3 l0 y352 x7_2).bind fun t356 => (skiarealaw43_SnowplanApart.l1 k3 l0 l1 x7_2 (wrap64 (x9_3 + t356)) (wrap64 (x10_3 + 1)))) = some r := by first | (rw [hy352]; with_reducible exact H) | (have H2_ := (Option.bind_some _ _).symm.trans H; rw [hy352]; with_reducible exact H2_) | (have H2_ := (Option.bind_some _ _).symm.trans H; with_reducible exact H2_) | with_reducible exact H | (rw [hy352]; exact H) | exact H
              have Ny352 := Aside0.mk hy352
              clear hy352
              replace H := Option.bind_eq_some_iff.mp H
              obtain ⟨t356, A190, H⟩ := H
              replace H : (skiarealaw43_SnowplanApart.l1 k3 l0 l1 x7_2 (wrap64 (x9_3 + t356)) (wrap64 (x10_3 + 1))) = some r := H
              have A19 := Aside0.mk A190
              clear A190
              have H' := Aside0.mk H
              clear H
              have q20 : ((wrap64 (x10_3 + 1)) : Int) ≤ ((l1.length : Int) : Int) := of_decide_eq_true (by first | (with_reducible assumption) | assumption)
              obtain ⟨i020, hi020, _, hsz20, _⟩ := info_parts info39
              have hroom20 : l1.length ≤ c1 := HC1.out
              have hC20 : Kd.C k39 _ A1 l1.length l1 := HR1.out
              have ql20 : (x10_3 : Int) ≤ ((wrap64 (x10_3 + 1)) : Int) := of_decide_eq_true (by first | (with_reducible assumption) | assumption)
              have q020 : (0 : Int) ≤ (x10_3 : Int) := of_decide_eq_true (by first | (with_reducible assumption) | assumption)
              have hcut20 := cut_mid (P := Try.prog) 23 39 .i64 .i64 Try.underlying23 hi020 2 hsz20 A1 l1.length c1 x10_3 (wrap64 (x10_3 + 1)) q020 ql20 q20 hroom20
              have hr20 := Kd.C_mid (lo := (x10_3 : Int).toNat) (hi := ((wrap64 (x10_3 + 1)) : Int).toNat) (c := c1) hC20 (by omega) (by omega) hroom20
              obtain ⟨A20, hA20⟩ : ∃ z_, z_ = (if c1 = (x10_3 : Int).toNat then A1 else (A1 : Option Addr).map (·.add ((x10_3 : Int).toNat * 2))) := ⟨_, rfl⟩
              obtain ⟨c20, hc20⟩ : ∃ z_, z_ = c1 - (x10_3 : Int).toNat := ⟨_, rfl⟩
              have hy20 : y352.length = ((wrap64 (x10_3 + 1)) : Int).toNat - (x10_3 : Int).toNat := (by rw [Ny352.out, List.length_drop, List.length_take] <;> omega)
              rw [show ((l1).take ((wrap64 (x10_3 + 1)) : Int).toNat).drop (x10_3 : Int).toNat = y352 from Ny352.out.symm] at hr20
              replace hr20 : Kd.C k39 _ A20 y352.length y352 := (by rw [hA20]; exact hr20)
              rw [← hy20, ← hA20, ← hc20] at hcut20
              have HR355 := Aside0.mk hr20
              have HC355 := Aside0.mk (show y352.length ≤ c20 from by rw [hy20, hc20]; exact Nat.sub_le_sub_right (Nat.le_trans (by omega) hroom20) _)
              clear hr20 hC20 hroom20 hi020 hsz20 hc20
              have KY20 := Aside0.mk hy20
              have KA20 := Aside0.mk hA20
              clear hy20 hA20
              replace q20 := eq_true q20
              go_wp2_with (first | ((with_reducible refine gate_callee (f := 13) rfl ?_); refine goesL_ (some 59) rfl rfl Try.func13 (by kernel_rfl) rfl #[.slice A0 l0.length c0, .slice A20 y352.length c20, .int .i64 x7_2] rfl (by (try simp only [List.map_toArray, List.map_cons, List.map_nil]); first | done | rfl | (simp only [List.length_drop, List.length_take]; rfl)) ?_; (with_reducible refine (snowplan_Greatest.calls k3 _ _ l0 _ _ y352 x7_2 t356 _ ?side1 ?side2 ?side3 ?side4 A19.out).mono ?_); (case side1 => repeat (first | exact (Kd.C_below HR0.out HB.out) | (with_reducible refine Kd.C_alloc ?_ _) | (with_reducible refine Kd.C_drewN ?_ _) | (with_reducible refine Kd.C_drew ?_))); (case side2 => exact HC0.out); (case side3 => repeat (first | exact (Kd.C_below HR355.out HB.out) | (with_reducible refine Kd.C_alloc ?_ _) | (with_reducible refine Kd.C_drewN ?_ _) | (with_reducible refine Kd.C_drew ?_))); (case side4 => exact HC355.out); rintro e w21 ⟨rfl, hb⟩; refine ⟨_, rfl, ?_⟩; have n0_ := Aside0.mk (below_step (by repeat (first | (with_reducible first | exact HB.out | apply below_alloc | apply pw_below_drewN | apply below_drew1) | exact HB.out)) hb); clear HB; have HB := n0_; clear n0_; (try clear hb); (try clear hb2); (try clear hk); (try clear hi)))
              go_roundg k3
              case measure => have := HJ5.out; have := HK2.out; have := HK3.out; omega
              case rel => exact ⟨(wrap64 (x9_3 + t356)), (wrap64 (x10_3 + 1)), (by first | rfl | (simp; done) | (simp [*]; done)), (by first | rfl | (simp; done) | (simp [*]; done)), H', ⟨by have := HJ5.out; have := HK2.out; have := HK3.out; omega⟩, ⟨by repeat (first | (with_reducible first | exact HB.out | apply below_alloc | apply pw_below_drewN | apply below_drew1) | exact HB.out)⟩⟩
             ·rw [if_neg c18] at H
              exact absurd H (by simp)
            ·rw [if_neg c17] at H
             exact absurd H (by simp)
           ·rw [if_neg c16] at H
            exact absurd H (by simp)
          ·rw [if_neg c15] at H
           have c15b0 : decide (x10_3 < (l1.length : Int)) = false := decide_eq_false c15
           clear c15
           replace H := Option.bind_eq_some_iff.mp H
           obtain ⟨t357, A220, H⟩ := H
           replace H : (some (t357 == x9_3)) = some r := H
           have A22 := Aside0.mk A220
           clear A220
           obtain rfl := Option.some.inj H
           go_wp2_with (first | ((with_reducible refine gate_callee (f := 13) rfl ?_); refine goesL_ (some 64) rfl rfl Try.func13 (by kernel_rfl) rfl #[.slice A0 l0.length c0, .slice A1 l1.length c1, .int .i64 x7_2] rfl (by (try simp only [List.map_toArray, List.map_cons, List.map_nil]); first | done | rfl | (simp only [List.length_drop, List.length_take]; rfl)) ?_; (with_reducible refine (snowplan_Greatest.calls k3 _ _ l0 _ _ l1 x7_2 t357 _ ?side1 ?side2 ?side3 ?side4 A22.out).mono ?_); (case side1 => repeat (first | exact (Kd.C_below HR0.out HB.out) | (with_reducible refine Kd.C_alloc ?_ _) | (with_reducible refine Kd.C_drewN ?_ _) | (with_reducible refine Kd.C_drew ?_))); (case side2 => exact HC0.out); (case side3 => repeat (first | exact (Kd.C_below HR1.out HB.out) | (with_reducible refine Kd.C_alloc ?_ _) | (with_reducible refine Kd.C_drewN ?_ _) | (with_reducible refine Kd.C_drew ?_))); (case side4 => exact HC1.out); rintro e w23 ⟨rfl, hb⟩; refine ⟨_, rfl, ?_⟩; have n0_ := Aside0.mk (below_step (by repeat (first | (with_reducible first | exact HB.out | apply below_alloc | apply pw_below_drewN | apply below_drew1) | exact HB.out)) hb); clear HB; have HB := n0_; clear n0_; (try clear hb); (try clear hb2); (try clear hk); (try clear hi)))
           go_ret
           exact ⟨by first | rfl | (simp [errW_none, errW_some] <;> rfl) | (simp [*, errW_none, errW_some] <;> rfl), by repeat (first | (with_reducible first | exact HB.out | apply below_alloc | apply pw_below_drewN | apply below_drew1) | exact HB.out)⟩
 ·replace c5 := Bool.eq_false_iff.mpr c5
  subst c5
  have H1 : (none) = some r := by rw [if_neg (show ¬ (false = true) by decide)] at H; exact H
  clear H
  have H := H1
  clear H1
  exact absurd H (by simp)

-- NOT PRINTED: function 44 (api_Shift)

end Go.Proofs.Ytefinjjcbpdljaa.PB
