-- Written by a program of this session over the translation (wip/tools/pprint.py). Not trusted: Lean checks it.
-- halved
import Derived.Test.YtefinjjcbpdljaaPPxD
import Derived.Test.YtefinjjcbpdljaaPPx5
import Derived.Test.YtefinjjcbpdljaaPPx8
import Derived.Test.YtefinjjcbpdljaaPPx9
namespace Go.Proofs.Ytefinjjcbpdljaa.PB
open Go.RowKit Go.Proofs.YtefinjjcbpdljaaW.PrintWords Go.Proofs.YtefinjjcbpdljaaW.PrintLast Go.Proofs.YtefinjjcbpdljaaW.PrintMore
attribute [local go_sem] max2_int min2_int max_two min_two max_three min_three max_four min_four   -- for this text's walks alone
set_option linter.unusedVariables false
set_option linter.unusedSimpArgs false

/-! ### skiarealaw43_SnowplanMore: function 9 -/
theorem skiarealaw43_SnowplanMore.mono_l : ∀ k, (∀ y0 y1 y2 y3 y4 y5, LeO (skiarealaw43_SnowplanMore.j0 k y0 y1 y2 y3 y4 y5) (skiarealaw43_SnowplanMore.j0 (k + 1) y0 y1 y2 y3 y4 y5))
 | 0 => fun _ _ _ _ _ _ r h => by simp [skiarealaw43_SnowplanMore.j0] at h
 | k + 1 => by
  have ih0 := skiarealaw43_SnowplanMore.mono_l k
  ·intro y0 y1 y2 y3 y4 y5
   unfold skiarealaw43_SnowplanMore.j0
   repeat' first
   | (with_reducible exact ih0 _ _ _ _ _ _)
   | (with_reducible exact skiarealaw43_alive.mono _)
   | (with_reducible exact snowplan_Greatest.mono _ _ _ _)
   | (with_reducible exact snowplan_Right.mono _ _ _)
   | (with_reducible exact LeO.refl _)
   | (with_reducible exact LeO.none _)
   | (with_reducible refine LeO.ite ?_ ?_)
   | (with_reducible refine LeO.bind ?_ (fun _ => ?_))
   | exact ih0 _ _ _ _ _ _
   | exact skiarealaw43_alive.mono _
   | exact snowplan_Greatest.mono _ _ _ _
   | exact snowplan_Right.mono _ _ _
   | exact LeO.none _
   | refine LeO.ite ?_ ?_
   | refine LeO.bind ?_ (fun _ => ?_)
theorem skiarealaw43_SnowplanMore.mono : ∀ a0 a1 a2 a3 a4 k, LeO (skiarealaw43_SnowplanMore.f k a0 a1 a2 a3 a4) (skiarealaw43_SnowplanMore.f (k + 1) a0 a1 a2 a3 a4) := by
 intro a0 a1 a2 a3 a4 k
 have ih0 := skiarealaw43_SnowplanMore.mono_l k
 unfold skiarealaw43_SnowplanMore.f
 repeat' first
   | (with_reducible exact ih0 _ _ _ _ _ _)
   | (with_reducible exact skiarealaw43_alive.mono _)
   | (with_reducible exact snowplan_Greatest.mono _ _ _ _)
   | (with_reducible exact snowplan_Right.mono _ _ _)
   | (with_reducible exact LeO.refl _)
   | (with_reducible exact LeO.none _)
   | (with_reducible refine LeO.ite ?_ ?_)
   | (with_reducible refine LeO.bind ?_ (fun _ => ?_))
   | exact ih0 _ _ _ _ _ _
   | exact skiarealaw43_alive.mono _
   | exact snowplan_Greatest.mono _ _ _ _
   | exact snowplan_Right.mono _ _ _
   | exact LeO.none _
   | refine LeO.ite ?_ ?_
   | refine LeO.bind ?_ (fun _ => ?_)
def skiarealaw43_SnowplanMore.T17 : Bool × List (List Nat × List Nat) := (true, [([], []), ([], []), ([], []), ([1, 2], [1, 2]), ([0, 3], [0, 3]), ([], []), ([], []), ([6], [6]), ([5, 7], [5, 7]), ([4, 8, 4], [4, 8]), ([9, 9, 0, 1, 2, 3, 4, 5, 6, 7, 8, 9], [9])])
def skiarealaw43_SnowplanMore.B17 : List Nat := [0, 0, 0, 6, 15, 0, 0, 64, 224, 511, 1023]
theorem skiarealaw43_SnowplanMore.tab17 : rtab .any (opsOf Try.f9 17) = skiarealaw43_SnowplanMore.T17 := by kernel_rfl
theorem skiarealaw43_SnowplanMore.bits17 : waitsOk skiarealaw43_SnowplanMore.T17.2 skiarealaw43_SnowplanMore.B17 = true := by kernel_rfl
set_option maxHeartbeats 8000000 in
set_option maxRecDepth 100000 in
theorem skiarealaw43_SnowplanMore.calls (k : Nat) (A0 : Option Addr) (c0 : Nat) (l0 : List (S42)) (A1 : Option Addr) (c1 : Nat) (l1 : List (S39)) (a2 : Int) (a3 : Int) (a4 : Int) (r : Bool) (w : World) (hr0 : Kd.C k42 w A0 l0.length l0) (hc0 : l0.length ≤ c0) (hr1 : Kd.C k39 w A1 l1.length l1) (hc1 : l1.length ≤ c1) (h : skiarealaw43_SnowplanMore.f k l0 l1 a2 a3 a4 = some r) :
  Calls Try.prog 9 #[.slice A0 l0.length c0, .slice A1 l1.length c1, .int .i64 a2, .int .u16 a3, .int .u8 a4] w fun e w' => e = .returned (.bool r) ∧ Below w.heap.size w w' := by
 have HR0 := Aside0.mk hr0
 have HC0 := Aside0.mk hc0
 clear hr0 hc0
 have HR1 := Aside0.mk hr1
 have HC1 := Aside0.mk hc1
 clear hr1 hc1
 have HB := Aside0.mk (Below.refl w.heap.size w)
 have H : ((skiarealaw43_alive.f k).bind fun t300 => (if t300 = true then (if (l0.length : Int) > 5 then (skiarealaw43_SnowplanMore.j0 k l0 l1 a2 a3 a4 true) else (if (l1.length : Int) > 3 then (skiarealaw43_SnowplanMore.j0 k l0 l1 a2 a3 a4 true) else ((snowplan_Right.f k l0 l1).bind fun t301 => (if t301 = 0 then (if a2 < 0 then (skiarealaw43_SnowplanMore.j0 k l0 l1 a2 a3 a4 true) else (skiarealaw43_SnowplanMore.j0 k l0 l1 a2 a3 a4 (decide (a2 > 1125899906842624)))) else (skiarealaw43_SnowplanMore.j0 k l0 l1 a2 a3 a4 true))))) else (none))) = some r := h
 clear h
 replace H := Option.bind_eq_some_iff.mp H
 obtain ⟨t300, A60, H⟩ := H
 replace H : (if t300 = true then (if (l0.length : Int) > 5 then (skiarealaw43_SnowplanMore.j0 k l0 l1 a2 a3 a4 true) else (if (l1.length : Int) > 3 then (skiarealaw43_SnowplanMore.j0 k l0 l1 a2 a3 a4 true) else ((snowplan_Right.f k l0 l1).bind fun t301 => (if t301 = 0 then (if a2 < 0 then (skiarealaw43_SnowplanMore.j0 k l0 l1 a2 a3 a4 true) else (skiarealaw43_SnowplanMore.j0 k l0 l1 a2 a3 a4 (decide (a2 > 1125899906842624)))) else (skiarealaw43_SnowplanMore.j0 k l0 l1 a2 a3 a4 true))))) else (none)) = some r := H
 have A6 := Aside0.mk A60
 clear A60
 by_cases c7 : t300 = true
 ·subst c7
  have H1 : (if (l0.length : Int) > 5 then (skiarealaw43_SnowplanMore.j0 k l0 l1 a2 a3 a4 true) else (if (l1.length : Int) > 3 then (skiarealaw43_SnowplanMore.j0 k l0 l1 a2 a3 a4 true) else ((snowplan_Right.f k l0 l1).bind fun t301 => (if t301 = 0 then (if a2 < 0 then (skiarealaw43_SnowplanMore.j0 k l0 l1 a2 a3 a4 true) else (skiarealaw43_SnowplanMore.j0 k l0 l1 a2 a3 a4 (decide (a2 > 1125899906842624)))) else (skiarealaw43_SnowplanMore.j0 k l0 l1 a2 a3 a4 true))))) = some r := by rw [if_pos rfl] at H; exact H
  clear H
  have H := H1
  clear H1
  have HC8 := Aside0.mk H
  clear H
  go_enter Try.func9, Try.ntmps9
  go_upto_region 3 with (first | ((with_reducible refine gate_callee (f := 17) rfl ?_); refine goesL_ (some 16) rfl rfl Try.func17 (by kernel_rfl) rfl #[] rfl (by (try simp only [List.map_toArray, List.map_cons, List.map_nil]); first | done | rfl | (simp only [List.length_drop, List.length_take]; rfl)) ?_; (with_reducible refine (skiarealaw43_alive.calls k  true _ A6.out).mono ?_); rintro e w9 ⟨rfl, hb⟩; refine ⟨_, rfl, ?_⟩; have n0_ := Aside0.mk (below_step (by repeat (first | (with_reducible first | exact HB.out | apply below_alloc | apply pw_below_drewN | apply below_drew1) | exact HB.out)) hb); clear HB; have HB := n0_; clear n0_; (try clear hb); (try clear hb2); (try clear hk); (try clear hi)))
  (try simp only [Act.put, List.setIfInBounds_toArray, List.set_cons_zero, List.set_cons_succ])
  go_cut [39] (fun v39 wc => ∃ (kq : Nat) (x39_7 : Bool), v39 = .bool x39_7 ∧ Aside0 (skiarealaw43_SnowplanMore.j0 kq l0 l1 a2 a3 a4 x39_7 = some r) ∧ Aside0 (kq ≤ k) ∧ Aside0 (Below w.heap.size w wc))
  case first =>
   have H := HC8.out
   clear HC8
   by_cases c10 : (l0.length : Int) > 5
   ·rw [if_pos c10] at H
    have c10b0 : decide (5 < (l0.length : Int)) = true := decide_eq_true c10
    have c10b1 : decide (5 < l0.length) = true := decide_eq_true (by omega)
    clear c10
    (first | rw [c10b0] | (simp only [i64_w, i32_w]; rw [c10b0]) | skip)
    have H' := Aside0.mk H
    clear H
    go_wp2
    go_meet
    case rel => exact ⟨_, (true), (by first | rfl | (simp; done) | (simp [*]; done)), H', ⟨by first | omega | exact Nat.le_refl _⟩, ⟨by repeat (first | (with_reducible first | exact HB.out | apply below_alloc | apply pw_below_drewN | apply below_drew1) | exact HB.out)⟩⟩
   ·rw [if_neg c10] at H
    have c10b0 : decide (5 < (l0.length : Int)) = false := decide_eq_false c10
    have c10b1 : decide (5 < l0.length) = false := decide_eq_false (by omega)
    clear c10
    (first | rw [c10b0] | (simp only [i64_w, i32_w]; rw [c10b0]) | skip)
    by_cases c11 : (l1.length : Int) > 3
    ·rw [if_pos c11] at H
     have c11b0 : decide (3 < (l1.length : Int)) = true := decide_eq_true c11
     have c11b1 : decide (3 < l1.length) = true := decide_eq_true (by omega)
     clear c11
     have H' := Aside0.mk H
     clear H
     go_wp2
     go_meet
     case rel => exact ⟨_, (true), (by first | rfl | (simp; done) | (simp [*]; done)), H', ⟨by first | omega | exact Nat.le_refl _⟩, ⟨by repeat (first | (with_reducible first | exact HB.out | apply below_alloc | apply pw_below_drewN | apply below_drew1) | exact HB.out)⟩⟩
    ·rw [if_neg c11] at H
     have c11b0 : decide (3 < (l1.length : Int)) = false := decide_eq_false c11
     have c11b1 : decide (3 < l1.length) = false := decide_eq_false (by omega)
     clear c11
     replace H := Option.bind_eq_some_iff.mp H
     obtain ⟨t301, A120, H⟩ := H
     replace H : (if t301 = 0 then (if a2 < 0 then (skiarealaw43_SnowplanMore.j0 k l0 l1 a2 a3 a4 true) else (skiarealaw43_SnowplanMore.j0 k l0 l1 a2 a3 a4 (decide (a2 > 1125899906842624)))) else (skiarealaw43_SnowplanMore.j0 k l0 l1 a2 a3 a4 true)) = some r := H
     have A12 := Aside0.mk A120
     clear A120
     by_cases c13 : t301 = 0
     ·rw [if_pos c13] at H
      have c13b0 : (t301 == 0) = true := beq_iff_eq.mpr c13
      have c13b1 : (t301 != 0) = false := bne_eq_false_iff_eq.mpr c13
      clear c13
      by_cases c14 : a2 < 0
      ·rw [if_pos c14] at H
       have c14b0 : decide (a2 < 0) = true := decide_eq_true c14
       clear c14
       have H' := Aside0.mk H
       clear H
       go_wp2_with (first | (go_at_call 18; (with_reducible refine (snowplan_Right.calls k _ _ l0 _ _ l1 t301 _ ?side1 ?side2 ?side3 ?side4 A12.out).mono ?_); (case side1 => repeat (first | exact (Kd.C_below HR0.out HB.out) | (with_reducible refine Kd.C_alloc ?_ _) | (with_reducible refine Kd.C_drewN ?_ _) | (with_reducible refine Kd.C_drew ?_))); (case side2 => exact HC0.out); (case side3 => repeat (first | exact (Kd.C_below HR1.out HB.out) | (with_reducible refine Kd.C_alloc ?_ _) | (with_reducible refine Kd.C_drewN ?_ _) | (with_reducible refine Kd.C_drew ?_))); (case side4 => exact HC1.out); rintro e w15 ⟨rfl, hb⟩; have n0_ := Aside0.mk (below_step (by repeat (first | (with_reducible first | exact HB.out | apply below_alloc | apply pw_below_drewN | apply below_drew1) | exact HB.out)) hb); clear HB; have HB := n0_; clear n0_; (try clear hb); (try clear hb2); (try clear hk); (try clear hi)))
       go_meet
       case rel => exact ⟨_, (true), (by first | rfl | (simp; done) | (simp [*]; done)), H', ⟨by first | omega | exact Nat.le_refl _⟩, ⟨by repeat (first | (with_reducible first | exact HB.out | apply below_alloc | apply pw_below_drewN | apply below_drew1) | exact HB.out)⟩⟩
      ·rw [if_neg c14] at H
       have c14b0 : decide (a2 < 0) = false := decide_eq_false c14
       clear c14
       have H' := Aside0.mk H
       clear H
       go_wp2_with (first | (go_at_call 18; (with_reducible refine (snowplan_Right.calls k _ _ l0 _ _ l1 t301 _ ?side1 ?side2 ?side3 ?side4 A12.out).mono ?_); (case side1 => repeat (first | exact (Kd.C_below HR0.out HB.out) | (with_reducible refine Kd.C_alloc ?_ _) | (with_reducible refine Kd.C_drewN ?_ _) | (with_reducible refine Kd.C_drew ?_))); (case side2 => exact HC0.out); (case side3 => repeat (first | exact (Kd.C_below HR1.out HB.out) | (with_reducible refine Kd.C_alloc ?_ _) | (with_reducible refine Kd.C_drewN ?_ _) | (with_reducible refine Kd.C_drew ?_))); (case side4 => exact HC1.out); rintro e w16 ⟨rfl, hb⟩; have n0_ := Aside0.mk (below_step (by repeat (first | (with_reducible first | exact HB.out | apply below_alloc | apply pw_below_drewN | apply below_drew1) | exact HB.out)) hb); clear HB; have HB := n0_; clear n0_; (try clear hb); (try clear hb2); (try clear hk); (try clear hi)))
       go_meet
       case rel => exact ⟨_, (decide (a2 > 1125899906842624)), (by first | rfl | (simp; done) | (simp [*]; done)), H', ⟨by first | omega | exact Nat.le_refl _⟩, ⟨by repeat (first | (with_reducible first | exact HB.out | apply below_alloc | apply pw_below_drewN | apply below_drew1) | exact HB.out)⟩⟩
     ·rw [if_neg c13] at H
      have c13b0 : (t301 == 0) = false := beq_eq_false_iff_ne.mpr c13
      have c13b1 : (t301 != 0) = true := bne_iff_ne.mpr c13
      have H' := Aside0.mk H
      clear H
      go_wp2_with (first | (go_at_call 18; (with_reducible refine (snowplan_Right.calls k _ _ l0 _ _ l1 t301 _ ?side1 ?side2 ?side3 ?side4 A12.out).mono ?_); (case side1 => repeat (first | exact (Kd.C_below HR0.out HB.out) | (with_reducible refine Kd.C_alloc ?_ _) | (with_reducible refine Kd.C_drewN ?_ _) | (with_reducible refine Kd.C_drew ?_))); (case side2 => exact HC0.out); (case side3 => repeat (first | exact (Kd.C_below HR1.out HB.out) | (with_reducible refine Kd.C_alloc ?_ _) | (with_reducible refine Kd.C_drewN ?_ _) | (with_reducible refine Kd.C_drew ?_))); (case side4 => exact HC1.out); rintro e w17 ⟨rfl, hb⟩; have n0_ := Aside0.mk (below_step (by repeat (first | (with_reducible first | exact HB.out | apply below_alloc | apply pw_below_drewN | apply below_drew1) | exact HB.out)) hb); clear HB; have HB := n0_; clear n0_; (try clear hb); (try clear hb2); (try clear hk); (try clear hi)))
      go_meet
      case rel => exact ⟨_, (true), (by first | rfl | (simp; done) | (simp [*]; done)), H', ⟨by first | omega | exact Nat.le_refl _⟩, ⟨by repeat (first | (with_reducible first | exact HB.out | apply below_alloc | apply pw_below_drewN | apply below_drew1) | exact HB.out)⟩⟩
  case rest =>
   clear HC8
   try clear c1
   try clear p2
   try clear c7
   try clear c9
   try clear c10
   try clear c10b0
   try clear c10b1
   try clear c11
   try clear c11b0
   try clear c11b1
   try clear c13
   try clear c13b0
   try clear c13b1
   try clear c14
   try clear c14b0
   try clear c17
   obtain ⟨kq, x39_7, rfl, HA, HJ7, HB⟩ := hcut
   cases kq with
   | zero => exact absurd HA.out (by simp [skiarealaw43_SnowplanMore.j0])
   | succ kj7 =>
    have H := HA.out
    clear HA
    simp only [skiarealaw43_SnowplanMore.j0] at H
    by_cases c18 : x39_7 = true
    ·subst c18
     have H1 : (some true) = some r := by rw [if_pos rfl] at H; exact H
     clear H
     have H := H1
     clear H1
     obtain rfl := Option.some.inj H
     go_wp2
     go_ret
     exact ⟨by first | rfl | (simp [errW_none, errW_some] <;> rfl) | (simp [*, errW_none, errW_some] <;> rfl), by repeat (first | (with_reducible first | exact HB.out | apply below_alloc | apply pw_below_drewN | apply below_drew1) | exact HB.out)⟩
    ·replace c18 := Bool.eq_false_iff.mpr c18
     subst c18
     have H1 : ((snowplan_Greatest.f kj7 l0 l1 a2).bind fun t302 => ((snowplan_Greatest.f kj7 l0 l1 (wrap64 (a2 + (wrap64 (a3))))).bind fun t303 => (if t303 < t302 then (none) else (if (l1.length : Int) > 0 then ((some (([] : List (S39)) : List (S39))).bind fun y304 => (if y304.length + l1.length < 8796093022208 then ((some (y304 ++ l1 : List (S39))).bind fun y307 => (if (l1.length : Int) = 0 then (none) else (if 0 ≤ (Int.tmod (wrap64 (a4)) (l1.length : Int)) then (if (Int.tmod (wrap64 (a4)) (l1.length : Int)) < (y307.length : Int) then ((snowplan_Greatest.f kj7 l0 (y307.set ((Int.tmod (wrap64 (a4)) (l1.length : Int)) : Int).toNat (⟨mn 1000000000 (wrap64 (((rd_T39 y307 (Int.tmod (wrap64 (a4)) (l1.length : Int))).f0) + (wrap64 (a3)))), (rd_T39 y307 (Int.tmod (wrap64 (a4)) (l1.length : Int))).f1⟩ : S39)) a2).bind fun t312 => (if t312 < t302 then (none) else (if (l0.length : Int) = 0 then (some (t302 == 0)) else ((some (([] : List (S42)) : List (S42))).bind fun y313 => (if 0 ≤ (Int.tmod (wrap64 (a4)) (l0.length : Int)) then (if (Int.tmod (wrap64 (a4)) (l0.length : Int)) ≤ (l0.length : Int) then ((some (l0.take ((Int.tmod (wrap64 (a4)) (l0.length : Int)) : Int).toNat : List (S42))).bind fun y316 => (if y313.length + y316.length < 4398046511104 then ((some (y313 ++ y316 : List (S42))).bind fun y320 => (if 0 ≤ (wrap64 ((Int.tmod (wrap64 (a4)) (l0.length : Int)) + 1)) then (if (wrap64 ((Int.tmod (wrap64 (a4)) (l0.length : Int)) + 1)) ≤ (l0.length : Int) then ((some (l0.drop ((wrap64 ((Int.tmod (wrap64 (a4)) (l0.length : Int)) + 1)) : Int).toNat : List (S42))).bind fun y323 => (if y320.length + y323.length < 4398046511104 then ((snowplan_Greatest.f kj7 (y320 ++ y323) l1 a2).bind fun t330 => (some (decide (t330 ≤ t302)))) else (none))) else (none)) else (none))) else (none))) else (none)) else (none)))))) else (none)) else (none)))) else (none))) else (if (l0.length : Int) = 0 then (some (t302 == 0)) else ((some (([] : List (S42)) : List (S42))).bind fun y331 => (if 0 ≤ (Int.tmod (wrap64 (a4)) (l0.length : Int)) then (if (Int.tmod (wrap64 (a4)) (l0.length : Int)) ≤ (l0.length : Int) then ((some (l0.take ((Int.tmod (wrap64 (a4)) (l0.length : Int)) : Int).toNat : List (S42))).bind fun y334 => (if y331.length + y334.length < 4398046511104 then ((some (y331 ++ y334 : List (S42))).bind fun y338 => (if 0 ≤ (wrap64 ((Int.tmod (wrap64 (a4)) (l0.length : Int)) + 1)) then (if (wrap64 ((Int.tmod (wrap64 (a4)) (l0.length : Int)) + 1)) ≤ (l0.length : Int) then ((some (l0.drop ((wrap64 ((Int.tmod (wrap64 (a4)) (l0.length : Int)) + 1)) : Int).toNat : List (S42))).bind fun y341 => (if y338.length + y341.length < 4398046511104 then ((snowplan_Greatest.f kj7 (y338 ++ y341) l1 a2).bind fun t348 => (some (decide (t348 ≤ t302)))) else (none))) else (none)) else (none))) else (none))) else (none)) else (none)))))))) = some r := by rw [if_neg (show ¬ (false = true) by decide)] at H; exact H
     clear H
     have H := H1
     clear H1
     replace H := Option.bind_eq_some_iff.mp H
     obtain ⟨t302, A190, H⟩ := H
     replace H : ((snowplan_Greatest.f kj7 l0 l1 (wrap64 (a2 + (wrap64 (a3))))).bind fun t303 => (if t303 < t302 then (none) else (if (l1.length : Int) > 0 then ((some (([] : List (S39)) : List (S39))).bind fun y304 => (if y304.length + l1.length < 8796093022208 then ((some (y304 ++ l1 : List (S39))).bind fun y307 => (if (l1.length : Int) = 0 then (none) else (if 0 ≤ (Int.tmod (wrap64 (a4)) (l1.length : Int)) then (if (Int.tmod (wrap64 (a4)) (l1.length : Int)) < (y307.length : Int) then ((snowplan_Greatest.f kj7 l0 (y307.set ((Int.tmod (wrap64 (a4)) (l1.length : Int)) : Int).toNat (⟨mn 1000000000 (wrap64 (((rd_T39 y307 (Int.tmod (wrap64 (a4)) (l1.length : Int))).f0) + (wrap64 (a3)))), (rd_T39 y307 (Int.tmod (wrap64 (a4)) (l1.length : Int))).f1⟩ : S39)) a2).bind fun t312 => (if t312 < t302 then (none) else (if (l0.length : Int) = 0 then (some (t302 == 0)) else ((some (([] : List (S42)) : List (S42))).bind fun y313 => (if 0 ≤ (Int.tmod (wrap64 (a4)) (l0.length : Int)) then (if (Int.tmod (wrap64 (a4)) (l0.length : Int)) ≤ (l0.length : Int) then ((some (l0.take ((Int.tmod (wrap64 (a4)) (l0.length : Int)) : Int).toNat : List (S42))).bind fun y316 => (if y313.length + y316.length < 4398046511104 then ((some (y313 ++ y316 : List (S42))).bind fun y320 => (if 0 ≤ (wrap64 ((Int.tmod (wrap64 (a4)) (l0.length : Int)) + 1)) then (if (wrap64 ((Int.tmod (wrap64 (a4)) (l0.length : Int)) + 1)) ≤ (l0.length : Int) then ((some (l0.drop ((wrap64 ((Int.tmod (wrap64 (a4)) (l0.length : Int)) + 1)) : Int).toNat : List (S42))).bind fun y323 => (if y320.length + y323.length < 4398046511104 then ((snowplan_Greatest.f kj7 (y320 ++ y323) l1 a2).bind fun t330 => (some (decide (t330 ≤ t302)))) else (none))) else (none)) else (none))) else (none))) else (none)) else (none)))))) else (none)) else (none)))) else (none))) else (if (l0.length : Int) = 0 then (some (t302 == 0)) else ((some (([] : List (S42)) : List (S42))).bind fun y331 => (if 0 ≤ (Int.tmod (wrap64 (a4)) (l0.length : Int)) then (if (Int.tmod (wrap64 (a4)) (l0.length : Int)) ≤ (l0.length : Int) then ((some (l0.take ((Int.tmod (wrap64 (a4)) (l0.length : Int)) : Int).toNat : List (S42))).bind fun y334 => (if y331.length + y334.length < 4398046511104 then ((some (y331 ++ y334 : List (S42))).bind fun y338 => (if 0 ≤ (wrap64 ((Int.tmod (wrap64 (a4)) (l0.length : Int)) + 1)) then (if (wrap64 ((Int.tmod (wrap64 (a4)) (l0.length : Int)) + 1)) ≤ (l0.length : Int) then ((some (l0.drop ((wrap64 ((Int.tmod (wrap64 (a4)) (l0.length : Int)) + 1)) : Int).toNat : List (S42))).bind fun y341 => (if y338.length + y341.length < 4398046511104 then ((snowplan_Greatest.f kj7 (y338 ++ y341) l1 a2).bind fun t348 => (some (decide (t348 ≤ t302)))) else (none))) else (none)) else (none))) else (none))) else (none)) else (none))))))) = some r := H
     have A19 := Aside0.mk A190
     clear A190
     replace H := Option.bind_eq_some_iff.mp H
     obtain ⟨t303, A200, H⟩ := H
     replace H : (if t303 < t302 then (none) else (if (l1.length : Int) > 0 then ((some (([] : List (S39)) : List (S39))).bind fun y304 => (if y304.length + l1.length < 8796093022208 then ((some (y304 ++ l1 : List (S39))).bind fun y307 => (if (l1.length : Int) = 0 then (none) else (if 0 ≤ (Int.tmod (wrap64 (a4)) (l1.length : Int)) then (if (Int.tmod (wrap64 (a4)) (l1.length : Int)) < (y307.length : Int) then ((snowplan_Greatest.f kj7 l0 (y307.set ((Int.tmod (wrap64 (a4)) (l1.length : Int)) : Int).toNat (⟨mn 1000000000 (wrap64 (((rd_T39 y307 (Int.tmod (wrap64 (a4)) (l1.length : Int))).f0) + (wrap64 (a3)))), (rd_T39 y307 (Int.tmod (wrap64 (a4)) (l1.length : Int))).f1⟩ : S39)) a2).bind fun t312 => (if t312 < t302 then (none) else (if (l0.length : Int) = 0 then (some (t302 == 0)) else ((some (([] : List (S42)) : List (S42))).bind fun y313 => (if 0 ≤ (Int.tmod (wrap64 (a4)) (l0.length : Int)) then (if (Int.tmod (wrap64 (a4)) (l0.length : Int)) ≤ (l0.length : Int) then ((some (l0.take ((Int.tmod (wrap64 (a4)) (l0.length : Int)) : Int).toNat : List (S42))).bind fun y316 => (if y313.length + y316.length < 4398046511104 then ((some (y313 ++ y316 : List (S42))).bind fun y320 => (if 0 ≤ (wrap64 ((Int.tmod (wrap64 (a4)) (l0.length : Int)) + 1)) then (if (wrap64 ((Int.tmod (wrap64 (a4)) (l0.length : Int)) + 1)) ≤ (l0.length : Int) then ((some (l0.drop ((wrap64 ((Int.tmod (wrap64 (a4)) (l0.length : Int)) + 1)) : Int).toNat : List (S42))).bind fun y323 => (if y320.length + y323.length < 4398046511104 then ((snowplan_Greatest.f kj7 (y320 ++ y323) l1 a2).bind fun t330 => (some (decide (t330 ≤ t302)))) else (none))) else (none)) else (none))) else (none))) else (none)) else (none)))))) else (none)) else (none)))) else (none))) else (if (l0.length : Int) = 0 then (some (t302 == 0)) else ((some (([] : List (S42)) : List (S42))).bind fun y331 => (if 0 ≤ (Int.tmod (wrap64 (a4)) (l0.length : Int)) then (if (Int.tmod (wrap64 (a4)) (l0.length : Int)) ≤ (l0.length : Int) then ((some (l0.take ((Int.tmod (wrap64 (a4)) (l0.length : Int)) : Int).toNat : List (S42))).bind fun y334 => (if y331.length + y334.length < 4398046511104 then ((some (y331 ++ y334 : List (S42))).bind fun y338 => (if 0 ≤ (wrap64 ((Int.tmod (wrap64 (a4)) (l0.length : Int)) + 1)) then (if (wrap64 ((Int.tmod (wrap64 (a4)) (l0.length : Int)) + 1)) ≤ (l0.length : Int) then ((some (l0.drop ((wrap64 ((Int.tmod (wrap64 (a4)) (l0.length : Int)) + 1)) : Int).toNat : List (S42))).bind fun y341 => (if y338.length + y341.length < 4398046511104 then ((snowplan_Greatest.f kj7 (y338 ++ y341) l1 a2).bind fun t348 => (some (decide (t348 ≤ t302)))) else (none))) else (none)) else (none))) else (none))) else (none)) else (none)))))) = some r := H
     have A20 := Aside0.mk A200
     clear A200
     by_cases c21 : t303 < t302
     ·rw [if_pos c21] at H
      exact absurd H (by simp)
     ·rw [if_neg c21] at H
      have c21b0 : decide (t303 < t302) = false := decide_eq_false c21
      clear c21
      by_cases c22 : (l1.length : Int) > 0
      ·rw [if_pos c22] at H
       have c22b0 : decide (0 < (l1.length : Int)) = true := decide_eq_true c22
       have c22b1 : decide (0 < l1.length) = true := decide_eq_true (by omega)
       clear c22
       obtain ⟨y304, hy304⟩ : ∃ y_ : List (S39), y_ = (([] : List (S39))) := ⟨_, rfl⟩
       replace H : (if y304.length + l1.length < 8796093022208 then ((some (y304 ++ l1 : List (S39))).bind fun y307 => (if (l1.length : Int) = 0 then (none) else (if 0 ≤ (Int.tmod (wrap64 (a4)) (l1.length : Int)) then (if (Int.tmod (wrap64 (a4)) (l1.length : Int)) < (y307.length : Int) then ((snowplan_Greatest.f kj7 l0 (y307.set ((Int.tmod (wrap64 (a4)) (l1.length : Int)) : Int).toNat (⟨mn 1000000000 (wrap64 (((rd_T39 y307 (Int.tmod (wrap64 (a4)) (l1.length : Int))).f0) + (wrap64 (a3)))), (rd_T39 y307 (Int.tmod (wrap64 (a4)) (l1.length : Int))).f1⟩ : S39)) a2).bind fun t312 => (if t312 < t302 then (none) else (if (l0.length : Int) = 0 then (some (t302 == 0)) else ((some (([] : List (S42)) : List (S42))).bind fun y313 => (if 0 ≤ (Int.tmod (wrap64 (a4)) (l0.length : Int)) then (if (Int.tmod (wrap64 (a4)) (l0.length : Int)) ≤ (l0.length : Int) then ((some (l0.take ((Int.tmod (wrap64 (a4)) (l0.length : Int)) : Int).toNat : List (S42))).bind fun y316 => (if y313.length + y316.length < 4398046511104 then ((some (y313 ++ y316 : List (S42))).bind fun y320 => (if 0 ≤ (wrap64 ((Int.tmod (wrap64 (a4)) (l0.length : Int)) + 1)) then (if (wrap64 ((Int.tmod (wrap64 (a4)) (l0.length : Int)) + 1)) ≤ (l0.length : Int) then ((some (l0.drop ((wrap64 ((Int.tmod (wrap64 (a4)) (l0.length : Int)) + 1)) : Int).toNat : List (S42))).bind fun y323 => (if y320.length + y323.length < 4398046511104 then ((snowplan_Greatest.f kj7 (y320 ++ y323) l1 a2).bind fun t330 => (some (decide (t330 ≤ t302)))) else (none))) else (none)) else (none))) else (none))) else (none)) else (none)))))) else (none)) else (none)))) else (none)) = some r := by first | (rw [hy304]; with_reducible exact H) | (have H2_ := (Option.bind_some _ _).symm.trans H; rw [hy304]; with_reducible exact H2_) | (have H2_ := (Option.bind_some _ _).symm.trans H; with_reducible exact H2_) | with_reducible exact H | (rw [hy304]; exact H) | exact H
       have Ny304 := Aside0.mk hy304
       clear hy304
       by_cases c23 : y304.length + l1.length < 8796093022208
       ·rw [if_pos c23] at H
        have LMc23 := Aside0.mk c23
        clear c23
        obtain ⟨y307, hy307⟩ : ∃ y_ : List (S39), y_ = (y304 ++ l1) := ⟨_, rfl⟩
        replace H : (if (l1.length : Int) = 0 then (none) else (if 0 ≤ (Int.tmod (wrap64 (a4)) (l1.length : Int)) then (if (Int.tmod (wrap64 (a4)) (l1.length : Int)) < (y307.length : Int) then ((snowplan_Greatest.f kj7 l0 (y307.set ((Int.tmod (wrap64 (a4)) (l1.length : Int)) : Int).toNat (⟨mn 1000000000 (wrap64 (((rd_T39 y307 (Int.tmod (wrap64 (a4)) (l1.length : Int))).f0) + (wrap64 (a3)))), (rd_T39 y307 (Int.tmod (wrap64 (a4)) (l1.length : Int))).f1⟩ : S39)) a2).bind fun t312 => (if t312 < t302 then (none) else (if (l0.length : Int) = 0 then (some (t302 == 0)) else ((some (([] : List (S42)) : List (S42))).bind fun y313 => (if 0 ≤ (Int.tmod (wrap64 (a4)) (l0.length : Int)) then (if (Int.tmod (wrap64 (a4)) (l0.length : Int)) ≤ (l0.length : Int) then ((some (l0.take ((Int.tmod (wrap64 (a4)) (l0.length : Int)) : Int).toNat : List (S42))).bind fun y316 => (if y313.length + y316.length < 4398046511104 then ((some (y313 ++ y316 : List (S42))).bind fun y320 => (if 0 ≤ (wrap64 ((Int.tmod (wrap64 (a4)) (l0.length : Int)) + 1)) then (if (wrap64 ((Int.tmod (wrap64 (a4)) (l0.length : Int)) + 1)) ≤ (l0.length : Int) then ((some (l0.drop ((wrap64 ((Int.tmod (wrap64 (a4)) (l0.length : Int)) + 1)) : Int).toNat : List (S42))).bind fun y323 => (if y320.length + y323.length < 4398046511104 then ((snowplan_Greatest.f kj7 (y320 ++ y323) l1 a2).bind fun t330 => (some (decide (t330 ≤ t302)))) else (none))) else (none)) else (none))) else (none))) else (none)) else (none)))))) else (none)) else (none))) = some r := by first | (rw [hy307]; with_reducible exact H) | (have H2_ := (Option.bind_some _ _).symm.trans H; rw [hy307]; with_reducible exact H2_) | (have H2_ := (Option.bind_some _ _).symm.trans H; with_reducible exact H2_) | with_reducible exact H | (rw [hy307]; exact H) | exact H
        have Ny307 := Aside0.mk hy307
        clear hy307
        by_cases c24 : (l1.length : Int) = 0
        ·rw [if_pos c24] at H
         exact absurd H (by simp)
        ·rw [if_neg c24] at H
         have c24b0 : ((l1.length : Int) == 0) = false := beq_eq_false_iff_ne.mpr c24
         have c24b1 : ((l1.length : Int) != 0) = true := bne_iff_ne.mpr c24
         have c24b2 : ¬ (l1 = []) := fun h_ => c24 (by rw [h_]; rfl)
         obtain ⟨ji25, hji25⟩ : ∃ j_ : Int, (Int.tmod (wrap64 (a4)) (l1.length : Int)) = j_ := ⟨_, rfl⟩
         replace H : (if 0 ≤ (ji25) then (if (ji25) < (y307.length : Int) then ((snowplan_Greatest.f kj7 l0 (y307.set ((ji25) : Int).toNat (⟨mn 1000000000 (wrap64 (((rd_T39 y307 (ji25)).f0) + (wrap64 (a3)))), (rd_T39 y307 (ji25)).f1⟩ : S39)) a2).bind fun t312 => (if t312 < t302 then (none) else (if (l0.length : Int) = 0 then (some (t302 == 0)) else ((some (([] : List (S42)) : List (S42))).bind fun y313 => (if 0 ≤ (Int.tmod (wrap64 (a4)) (l0.length : Int)) then (if (Int.tmod (wrap64 (a4)) (l0.length : Int)) ≤ (l0.length : Int) then ((some (l0.take ((Int.tmod (wrap64 (a4)) (l0.length : Int)) : Int).toNat : List (S42))).bind fun y316 => (if y313.length + y316.length < 4398046511104 then ((some (y313 ++ y316 : List (S42))).bind fun y320 => (if 0 ≤ (wrap64 ((Int.tmod (wrap64 (a4)) (l0.length : Int)) + 1)) then (if (wrap64 ((Int.tmod (wrap64 (a4)) (l0.length : Int)) + 1)) ≤ (l0.length : Int) then ((some (l0.drop ((wrap64 ((Int.tmod (wrap64 (a4)) (l0.length : Int)) + 1)) : Int).toNat : List (S42))).bind fun y323 => (if y320.length + y323.length < 4398046511104 then ((snowplan_Greatest.f kj7 (y320 ++ y323) l1 a2).bind fun t330 => (some (decide (t330 ≤ t302)))) else (none))) else (none)) else (none))) else (none))) else (none)) else (none)))))) else (none)) else (none)) = some r := by first | (rw [hji25] at H; exact H) | (simp only [hji25] at H ⊢; exact H)
         (try rw [hji25] at A19)
         (try rw [hji25] at A20)
         by_cases c26 : 0 ≤ (ji25)
         ·rw [if_pos c26] at H
          have c26b0 : decide (0 ≤ (ji25)) = true := decide_eq_true c26
          clear c26
          by_cases c27 : (ji25) < (y307.length : Int)
          ·rw [if_pos c27] at H
           have c27b0 : decide ((ji25) < (y307.length : Int)) = true := decide_eq_true c27
           clear c27
           obtain ⟨ji28, hji28⟩ : ∃ j_ : Int, (mn 1000000000 (wrap64 (((rd_T39 y307 (ji25)).f0) + (wrap64 (a3))))) = j_ := ⟨_, rfl⟩
           replace H : ((snowplan_Greatest.f kj7 l0 (y307.set ((ji25) : Int).toNat (⟨ji28, (rd_T39 y307 (ji25)).f1⟩ : S39)) a2).bind fun t312 => (if t312 < t302 then (none) else (if (l0.length : Int) = 0 then (some (t302 == 0)) else ((some (([] : List (S42)) : List (S42))).bind fun y313 => (if 0 ≤ (Int.tmod (wrap64 (a4)) (l0.length : Int)) then (if (Int.tmod (wrap64 (a4)) (l0.length : Int)) ≤ (l0.length : Int) then ((some (l0.take ((Int.tmod (wrap64 (a4)) (l0.length : Int)) : Int).toNat : List (S42))).bind fun y316 => (if y313.length + y316.length < 4398046511104 then ((some (y313 ++ y316 : List (S42))).bind fun y320 => (if 0 ≤ (wrap64 ((Int.tmod (wrap64 (a4)) (l0.length : Int)) + 1)) then (if (wrap64 ((Int.tmod (wrap64 (a4)) (l0.length : Int)) + 1)) ≤ (l0.length : Int) then ((some (l0.drop ((wrap64 ((Int.tmod (wrap64 (a4)) (l0.length : Int)) + 1)) : Int).toNat : List (S42))).bind fun y323 => (if y320.length + y323.length < 4398046511104 then ((snowplan_Greatest.f kj7 (y320 ++ y323) l1 a2).bind fun t330 => (some (decide (t330 ≤ t302)))) else (none))) else (none)) else (none))) else (none))) else (none)) else (none)))))) = some r := by first | (rw [hji28] at H; exact H) | (simp only [hji28] at H ⊢; exact H)
           (try rw [hji28] at A19)
           (try rw [hji28] at A20)
           have hji28_ : (if (wrap64 (((rd_T39 y307 (ji25)).f0) + (wrap64 (a3)))) < 1000000000 then (wrap64 (((rd_T39 y307 (ji25)).f0) + (wrap64 (a3)))) else 1000000000) = ji28 := hji28
           obtain ⟨y311, hy311⟩ : ∃ y_ : List (S39), y_ = (y307.set ((ji25) : Int).toNat (⟨ji28, (rd_T39 y307 (ji25)).f1⟩ : S39)) := ⟨_, rfl⟩
           replace H : ((snowplan_Greatest.f kj7 l0 y311 a2).bind fun t312 => (if t312 < t302 then (none) else (if (l0.length : Int) = 0 then (some (t302 == 0)) else ((some (([] : List (S42)) : List (S42))).bind fun y313 => (if 0 ≤ (Int.tmod (wrap64 (a4)) (l0.length : Int)) then (if (Int.tmod (wrap64 (a4)) (l0.length : Int)) ≤ (l0.length : Int) then ((some (l0.take ((Int.tmod (wrap64 (a4)) (l0.length : Int)) : Int).toNat : List (S42))).bind fun y316 => (if y313.length + y316.length < 4398046511104 then ((some (y313 ++ y316 : List (S42))).bind fun y320 => (if 0 ≤ (wrap64 ((Int.tmod (wrap64 (a4)) (l0.length : Int)) + 1)) then (if (wrap64 ((Int.tmod (wrap64 (a4)) (l0.length : Int)) + 1)) ≤ (l0.length : Int) then ((some (l0.drop ((wrap64 ((Int.tmod (wrap64 (a4)) (l0.length : Int)) + 1)) : Int).toNat : List (S42))).bind fun y323 => (if y320.length + y323.length < 4398046511104 then ((snowplan_Greatest.f kj7 (y320 ++ y323) l1 a2).bind fun t330 => (some (decide (t330 ≤ t302)))) else (none))) else (none)) else (none))) else (none))) else (none)) else (none)))))) = some r := by first | (rw [hy311]; with_reducible exact H) | (have H2_ := (Option.bind_some _ _).symm.trans H; rw [hy311]; with_reducible exact H2_) | (have H2_ := (Option.bind_some _ _).symm.trans H; with_reducible exact H2_) | with_reducible exact H | (rw [hy311]; exact H) | exact H
           have Ny311 := Aside0.mk hy311
           clear hy311
           replace H := Option.bind_eq_some_iff.mp H
           obtain ⟨t312, A300, H⟩ := H
           replace H : (if t312 < t302 then (none) else (if (l0.length : Int) = 0 then (some (t302 == 0)) else ((some (([] : List (S42)) : List (S42))).bind fun y313 => (if 0 ≤ (Int.tmod (wrap64 (a4)) (l0.length : Int)) then (if (Int.tmod (wrap64 (a4)) (l0.length : Int)) ≤ (l0.length : Int) then ((some (l0.take ((Int.tmod (wrap64 (a4)) (l0.length : Int)) : Int).toNat : List (S42))).bind fun y316 => (if y313.length + y316.length < 4398046511104 then ((some (y313 ++ y316 : List (S42))).bind fun y320 => (if 0 ≤ (wrap64 ((Int.tmod (wrap64 (a4)) (l0.length : Int)) + 1)) then (if (wrap64 ((Int.tmod (wrap64 (a4)) (l0.length : Int)) + 1)) ≤ (l0.length : Int) then ((some (l0.drop ((wrap64 ((Int.tmod (wrap64 (a4)) (l0.length : Int)) + 1)) : Int).toNat : List (S42))).bind fun y323 => (if y320.length + y323.length < 4398046511104 then ((snowplan_Greatest.f kj7 (y320 ++ y323) l1 a2).bind fun t330 => (some (decide (t330 ≤ t302)))) else (none))) else (none)) else (none))) else (none))) else (none)) else (none))))) = some r := H
           have A30 := Aside0.mk A300
           clear A300
           by_cases c31 : t312 < t302
           ·rw [if_pos c31] at H
            exact absurd H (by simp)
           ·rw [if_neg c31] at H
            have c31b0 : decide (t312 < t302) = false := decide_eq_false c31
            clear c31
            by_cases c32 : (l0.length : Int) = 0
            ·rw [if_pos c32] at H
             have c32b0 : ((l0.length : Int) == 0) = true := beq_iff_eq.mpr c32
             have c32b1 : ((l0.length : Int) != 0) = false := bne_eq_false_iff_eq.mpr c32
             clear c32
             obtain rfl := Option.some.inj H
             go_wp2_with (first | ((with_reducible refine gate_callee (f := 13) rfl ?_); refine goesL_ (some 43) rfl rfl Try.func13 (by kernel_rfl) rfl #[.slice A0 l0.length c0, .slice A1 l1.length c1, .int .i64 a2] rfl (by (try simp only [List.map_toArray, List.map_cons, List.map_nil]); first | done | rfl | (simp only [List.length_drop, List.length_take]; rfl)) ?_; (with_reducible refine (snowplan_Greatest.calls kj7 _ _ l0 _ _ l1 a2 t302 _ ?side1 ?side2 ?side3 ?side4 A19.out).mono ?_); (case side1 => repeat (first | exact (Kd.C_below HR0.out HB.out) | (with_reducible refine Kd.C_alloc ?_ _) | (with_reducible refine Kd.C_drewN ?_ _) | (with_reducible refine Kd.C_drew ?_))); (case side2 => exact HC0.out); (case side3 => repeat (first | exact (Kd.C_below HR1.out HB.out) | (with_reducible refine Kd.C_alloc ?_ _) | (with_reducible refine Kd.C_drewN ?_ _) | (with_reducible refine Kd.C_drew ?_))); (case side4 => exact HC1.out); rintro e w33 ⟨rfl, hb⟩; refine ⟨_, rfl, ?_⟩; have n0_ := Aside0.mk (below_step (by repeat (first | (with_reducible first | exact HB.out | apply below_alloc | apply pw_below_drewN | apply below_drew1) | exact HB.out)) hb); clear HB; have HB := n0_; clear n0_; (try clear hb); (try clear hb2); (try clear hk); (try clear hi)) | ((with_reducible refine gate_callee (f := 13) rfl ?_); refine goesL_ (some 50) rfl rfl Try.func13 (by kernel_rfl) rfl #[.slice A0 l0.length c0, .slice A1 l1.length c1, .int .i64 (wrap64 (a2 + (wrap64 (a3))))] rfl (by (try simp only [List.map_toArray, List.map_cons, List.map_nil]); first | done | rfl | (simp only [List.length_drop, List.length_take]; rfl)) ?_; (with_reducible refine (snowplan_Greatest.calls kj7 _ _ l0 _ _ l1 (wrap64 (a2 + (wrap64 (a3)))) t303 _ ?side1 ?side2 ?side3 ?side4 A20.out).mono ?_); (case side1 => repeat (first | exact (Kd.C_below HR0.out HB.out) | (with_reducible refine Kd.C_alloc ?_ _) | (with_reducible refine Kd.C_drewN ?_ _) | (with_reducible refine Kd.C_drew ?_))); (case side2 => exact HC0.out); (case side3 => repeat (first | exact (Kd.C_below HR1.out HB.out) | (with_reducible refine Kd.C_alloc ?_ _) | (with_reducible refine Kd.C_drewN ?_ _) | (with_reducible refine Kd.C_drew ?_))); (case side4 => exact HC1.out); rintro e w34 ⟨rfl, hb⟩; refine ⟨_, rfl, ?_⟩; have n0_ := Aside0.mk (below_step (by repeat (first | (with_reducible first | exact HB.out | apply below_alloc | apply pw_below_drewN | apply below_drew1) | exact HB.out)) hb); clear HB; have HB := n0_; clear n0_; (try clear hb); (try clear hb2); (try clear hk); (try clear hi)) | ((with_reducible refine gate_dst (N := 56) rfl ?_); (try (refine gate_guard (by rfl) ?_; dsimp only)); refine Kd.R_lit k39 _ 39 ?hg (N := 56) ?hd (xs := ([] : List (S39))) (inner := []) (ok := fun _ => True) (okp := fun _ => True) ?hr ?hp (fun _ hk => hk) trivial (Below.refl _ _) (Nat.le_refl _) (by simp) ?_; (case hd => rfl); (case hg => rfl); (case hr => first | (go_simp; done) | (go_simp; rfl)); (case hp => exact (Reps.none _ _)); intro v305 w35 ho36 hb hg_ hnew_; clear hg_ hnew_; (first | rw [← Ny304.out] at ho36 | (simp only [Int.reduceToNat] at ho36; rw [← Ny304.out] at ho36)); have n0_ := Aside0.mk (Kd.R_lower ho36 (below_size (by repeat (first | (with_reducible first | exact HB.out | apply below_alloc | apply pw_below_drewN | apply below_drew1) | exact HB.out)))); have n1_ := Aside0.mk (below_step (by repeat (first | (with_reducible first | exact HB.out | apply below_alloc | apply pw_below_drewN | apply below_drew1) | exact HB.out)) hb); clear HB; have HO306 := n0_; have HB := n1_; clear n0_ n1_; clear hb ho36) | ((with_reducible refine gate_builtin (b := .append) (xs := #[.tmp 56, .tmp 57]) rfl ?_); (try (refine gate_guard (by rfl) ?_; dsimp only)); at_builtin; refine Kd.R_append_rows k39 (w0 := w) w.heap.size rfl (.tmp 56) (.tmp 57) 23 39 (.agg #[(.int .i64 0), (.int .i64 0)]) 16 rfl Try.underlying23 info39 rfl (by decide) (by omega) v305 y304 l1 _ _ _ (fun _ => True) (fun _ => False) rfl rfl ?aO ?aR (fun _ _ h => h) (fun _ h => h.elim) ?aF ?aB ?aS ?aL ?_; (case aR => repeat (first | exact (Kd.C_below HR1.out HB.out) | (with_reducible refine Kd.C_alloc ?_ _) | (with_reducible refine Kd.C_drewN ?_ _) | (with_reducible refine Kd.C_drew ?_))); (case aB => exact (by repeat (first | (with_reducible first | exact HB.out | apply below_alloc | apply pw_below_drewN | apply below_drew1) | exact HB.out))); (case aF => exact (fun _ _ => trivial)); (case aO => exact (by (with_reducible repeat (first | apply Kd.R_alloc | apply Kd.R_drewN | apply Kd.R_drew)); exact HO306.out)); (case aS => exact (below_size (by repeat (first | (with_reducible first | exact HB.out | apply below_alloc | apply pw_below_drewN | apply below_drew1) | exact HB.out)))); (case aL => have := LMc23.out; omega); intro v308 w37 ho hb hg hat; rw [← Ny307.out] at ho; have n0_ := Aside0.mk (hb); have n1_ := Aside0.mk (ho); clear HB; clear HO306; have HB := n0_; have HO309 := n1_; clear n0_ n1_; clear ho hb hg hat; obtain ⟨Ao38, co38, eo38⟩ := Kd.R_slice HO309.out; subst eo38; have p310 : 0 ≤ ((ji25) : Int) := of_decide_eq_true (by first | (with_reducible assumption) | assumption); have q310 : (ji25) < (y307.length : Int) := of_decide_eq_true (by first | (with_reducible assumption) | assumption); obtain ⟨ad310, e310, hx310_0, hx310_1⟩ := at_T39 (Kd.R_reads' HO309.out).2.2 (ji25) p310 q310; cases e310; replace p310 := eq_true p310; replace q310 := eq_true q310; have p29 : 0 ≤ ((ji25) : Int) := of_decide_eq_true (by first | (with_reducible assumption) | assumption); have q29 : ((ji25) : Int) < ((y307.length : Int) : Int) := of_decide_eq_true (by first | (with_reducible assumption) | assumption); obtain ⟨go29, co29, eo29, gb29, gl29, cl29, HG29⟩ := Kd.R_form HO309.out (by omega); (first | cases eo29 | (injection eo29 with ea_ en_ ec_; (first | subst ea_ | (injection ea_ with ea_; subst ea_)); subst ec_; clear en_)); have GB29 := Aside0.mk gb29; have GG29 := Aside0.mk HG29; clear gb29 gl29 HG29; (first | simp only [add_plain] at hx310_0 | skip); (first | simp only [add_plain] at hx310_1 | skip); obtain ⟨ce29, hcl29, hM29, hcc29, hfr29⟩ := Kd.R_elem HO309.out z39 ((ji25) : Int) p29 q29; obtain rfl := k39_openM hM29; have hx29_0 : w37.cell? ⟨go29, ((ji25) : Int).toNat * 2, none⟩ = some (.int .i64 ((rd_T39 y307 (ji25)).f0)) := hcc29 0 _ rfl; have hx29_1 : w37.cell? ⟨go29, ((ji25) : Int).toNat * 2 + 1, none⟩ = some (.int .i64 ((rd_T39 y307 (ji25)).f1)) := hcc29 1 _ rfl; have hf29_0 : w37.frozen? ⟨go29, ((ji25) : Int).toNat * 2, none⟩ = false := hfr29 0; have hf29_1 : w37.frozen? ⟨go29, ((ji25) : Int).toNat * 2 + 1, none⟩ = false := hfr29 1; clear hcl29 hcc29 hfr29 hM29; replace p29 := eq_true p29; replace q29 := eq_true q29; have HX39 := Aside0.mk (show Kd.R k39 39 w37 w.heap.size (fun _ => True) (.slice (some ⟨go29, 0, none⟩) y307.length co38) y307 from (by (with_reducible repeat (first | apply Kd.R_alloc | apply Kd.R_drewN | apply Kd.R_drew)); exact HO309.out)); obtain ⟨ce39, hcl39, hM39, hcc39, hfr39⟩ := Kd.R_elem HX39.out z39 ((ji25) : Int) (of_decide_eq_true (by first | (with_reducible assumption) | assumption)) (by have h_ : ((ji25) : Int) < ((y307.length : Int) : Int) := of_decide_eq_true (by first | (with_reducible assumption) | assumption); first | exact h_ | (have e_ := (Kd.R_reads' HO309.out).1; omega) | simpa using h_); obtain rfl := k39_openM hM39; have HP39 := Kd.R_seg HX39.out ((ji25) : Int) (of_decide_eq_true (by first | (with_reducible assumption) | assumption)) (by have h_ : ((ji25) : Int) < ((y307.length : Int) : Int) := of_decide_eq_true (by first | (with_reducible assumption) | assumption); first | exact h_ | (have e_ := (Kd.R_reads' HO309.out).1; omega) | simpa using h_) (seg := [.int .i64 ji28]) (j := 0) hcl39 hcc39 (show 1 ≤ 2 from by decide) (x' := (⟨ji28, (rd_T39 y307 (ji25)).f1⟩ : S39)) (k39_mkM _ _ _ (⟨ji28, (rd_T39 y307 (ji25)).f1⟩ : S39) ) (fun _ hk => hk); have hx39_0 := hcc39 0 _ rfl; (try simp only [show (k39).sz = 2 from rfl, Nat.mul_one, Nat.add_zero] at hx39_0); have hf39_0 := hfr39 0; (try simp only [show (k39).sz = 2 from rfl, Nat.mul_one, Nat.add_zero] at hf39_0); clear hcl39 hcc39 hfr39 hM39) | ((with_reducible refine gate_store (t := 3) (p := 76) rfl ?_); refine store_event (t := 3) (p := 76) (v := ?vo_w40) (w1 := (w37.setCell ⟨go29, ((ji25) : Int).toNat * 2, none⟩ (.int .i64 ji28))) ?hg ?ho ?hn ?hr ?_; (case ho => rfl); (case hg => rfl); (case hn => rfl); (case hr => first | (go_simp; done) | (go_simp; rfl)); intro w40 hw; have hg : w37.grownBy w40 (some go29) := (by rw [hw]; exact HP39.2); have hp_ : Kd.R k39 39 w40 w.heap.size (fun _ => True) (.slice (some ⟨go29, 0, none⟩) y307.length co38) y311 := (by rw [hw, Ny311.out]; exact HP39.1); clear HP39; have n0_ := Aside0.mk (hp_); have n1_ := Aside0.mk ((by rw [hw]; exact below_set (HB.out) GB29.out : Below w.heap.size w w40)); clear HO309; clear HB; have HO309 := n0_; have HB := n1_; clear n0_ n1_; clear hg hw hp_) | ((with_reducible refine gate_callee (f := 13) rfl ?_); refine goesL_ (some 80) rfl rfl Try.func13 (by kernel_rfl) rfl #[.slice A0 l0.length c0, .slice (some ⟨go29, 0, none⟩) y311.length co38, .int .i64 a2] rfl (by (try simp only [List.map_toArray, List.map_cons, List.map_nil]); first | done | (rw [show y311.length = y307.length from (Kd.R_reads' HO309.out).1.symm] <;> rfl) | rfl | (simp only [List.length_drop, List.length_take]; rfl)) ?_; (with_reducible refine (snowplan_Greatest.calls kj7 _ _ l0 _ _ y311 a2 t312 _ ?side1 ?side2 ?side3 ?side4 A30.out).mono ?_); (case side1 => repeat (first | exact (Kd.C_below HR0.out HB.out) | (with_reducible refine Kd.C_alloc ?_ _) | (with_reducible refine Kd.C_drewN ?_ _) | (with_reducible refine Kd.C_drew ?_))); (case side2 => exact HC0.out); (case side3 => repeat (first | exact (Kd.R_reads' HO309.out).2.2 | (with_reducible refine Kd.C_alloc ?_ _) | (with_reducible refine Kd.C_drewN ?_ _) | (with_reducible refine Kd.C_drew ?_))); (case side4 => rw [show y311.length = y307.length from (Kd.R_reads' HO309.out).1.symm]; exact (Kd.R_reads' HO309.out).2.1); rintro e w41 ⟨rfl, hb⟩; refine ⟨_, rfl, ?_⟩; have n0_ := Aside0.mk (Kd.R_below (by (with_reducible repeat (first | apply Kd.R_alloc | apply Kd.R_drewN | apply Kd.R_drew)); exact HO309.out) hb); have n1_ := Aside0.mk (below_step (by repeat (first | (with_reducible first | exact HB.out | apply below_alloc | apply pw_below_drewN | apply below_drew1) | exact HB.out)) hb); clear HO309; clear HB; have HO309 := n0_; have HB := n1_; clear n0_ n1_; (try clear hb); (try clear hb2); (try clear hk); (try clear hi)))
             go_ret
             exact ⟨by first | rfl | (simp [errW_none, errW_some] <;> rfl) | (simp only [← hji25, ← hji28]; first | rfl | (simp [errW_none, errW_some] <;> rfl)) | (simp [*, errW_none, errW_some] <;> rfl), by repeat (first | (with_reducible first | exact HB.out | apply below_alloc | apply pw_below_drewN | apply below_drew1) | exact HB.out)⟩
            ·rw [if_neg c32] at H
             have c32b0 : ((l0.length : Int) == 0) = false := beq_eq_false_iff_ne.mpr c32
             have c32b1 : ((l0.length : Int) != 0) = true := bne_iff_ne.mpr c32
             have c32b2 : ¬ (l0 = []) := fun h_ => c32 (by rw [h_]; rfl)
             obtain ⟨y313, hy313⟩ : ∃ y_ : List (S42), y_ = (([] : List (S42))) := ⟨_, rfl⟩
             replace H : (if 0 ≤ (Int.tmod (wrap64 (a4)) (l0.length : Int)) then (if (Int.tmod (wrap64 (a4)) (l0.length : Int)) ≤ (l0.length : Int) then ((some (l0.take ((Int.tmod (wrap64 (a4)) (l0.length : Int)) : Int).toNat : List (S42))).bind fun y316 => (if y313.length + y316.length < 4398046511104 then ((some (y313 ++ y316 : List (S42))).bind fun y320 => (if 0 ≤ (wrap64 ((Int.tmod (wrap64 (a4)) (l0.length : Int)) + 1)) then (if (wrap64 ((Int.tmod (wrap64 (a4)) (l0.length : Int)) + 1)) ≤ (l0.length : Int) then ((some (l0.drop ((wrap64 ((Int.tmod (wrap64 (a4)) (l0.length : Int)) + 1)) : Int).toNat : List (S42))).bind fun y323 => (if y320.length + y323.length < 4398046511104 then ((snowplan_Greatest.f kj7 (y320 ++ y323) l1 a2).bind fun t330 => (some (decide (t330 ≤ t302)))) else (none))) else (none)) else (none))) else (none))) else (none)) else (none)) = some r := by first | (rw [hy313]; with_reducible exact H) | (have H2_ := (Option.bind_some _ _).symm.trans H; rw [hy313]; with_reducible exact H2_) | (have H2_ := (Option.bind_some _ _).symm.trans H; with_reducible exact H2_) | with_reducible exact H | (rw [hy313]; exact H) | exact H
             have Ny313 := Aside0.mk hy313
             clear hy313
             obtain ⟨ji42, hji42⟩ : ∃ j_ : Int, (Int.tmod (wrap64 (a4)) (l0.length : Int)) = j_ := ⟨_, rfl⟩
             replace H : (if 0 ≤ (ji42) then (if (ji42) ≤ (l0.length : Int) then ((some (l0.take ((ji42) : Int).toNat : List (S42))).bind fun y316 => (if y313.length + y316.length < 4398046511104 then ((some (y313 ++ y316 : List (S42))).bind fun y320 => (if 0 ≤ (wrap64 ((ji42) + 1)) then (if (wrap64 ((ji42) + 1)) ≤ (l0.length : Int) then ((some (l0.drop ((wrap64 ((ji42) + 1)) : Int).toNat : List (S42))).bind fun y323 => (if y320.length + y323.length < 4398046511104 then ((snowplan_Greatest.f kj7 (y320 ++ y323) l1 a2).bind fun t330 => (some (decide (t330 ≤ t302)))) else (none))) else (none)) else (none))) else (none))) else (none)) else (none)) = some r := by first | (rw [hji42] at H; exact H) | (simp only [hji42] at H ⊢; exact H)
             (try rw [hji42] at A19)
             (try rw [hji42] at A20)
             (try rw [hji42] at A30)
             by_cases c43 : 0 ≤ (ji42)
             ·rw [if_pos c43] at H
              have c43b0 := eq_true c43
              have c43b1 : decide (0 ≤ (ji42)) = true := decide_eq_true c43
              clear c43
              by_cases c44 : (ji42) ≤ (l0.length : Int)
              ·rw [if_pos c44] at H
               have c44b0 := eq_true c44
               have c44b1 : decide ((ji42) ≤ (l0.length : Int)) = true := decide_eq_true c44
               clear c44
               obtain ⟨y316, hy316⟩ : ∃ y_ : List (S42), y_ = (l0.take ((ji42) : Int).toNat) := ⟨_, rfl⟩
               replace H : (if y313.length + y316.length < 4398046511104 then ((some (y313 ++ y316 : List (S42))).bind fun y320 => (if 0 ≤ (wrap64 ((ji42) + 1)) then (if (wrap64 ((ji42) + 1)) ≤ (l0.length : Int) then ((some (l0.drop ((wrap64 ((ji42) + 1)) : Int).toNat : List (S42))).bind fun y323 => (if y320.length + y323.length < 4398046511104 then ((snowplan_Greatest.f kj7 (y320 ++ y323) l1 a2).bind fun t330 => (some (decide (t330 ≤ t302)))) else (none))) else (none)) else (none))) else (none)) = some r := by first | (rw [hy316]; with_reducible exact H) | (have H2_ := (Option.bind_some _ _).symm.trans H; rw [hy316]; with_reducible exact H2_) | (have H2_ := (Option.bind_some _ _).symm.trans H; with_reducible exact H2_) | with_reducible exact H | (rw [hy316]; exact H) | exact H
               have Ny316 := Aside0.mk hy316
               clear hy316
               by_cases c45 : y313.length + y316.length < 4398046511104
               ·rw [if_pos c45] at H
                have LMc45 := Aside0.mk c45
                clear c45
                obtain ⟨y320, hy320⟩ : ∃ y_ : List (S42), y_ = (y313 ++ y316) := ⟨_, rfl⟩
                replace H : (if 0 ≤ (wrap64 ((ji42) + 1)) then (if (wrap64 ((ji42) + 1)) ≤ (l0.length : Int) then ((some (l0.drop ((wrap64 ((ji42) + 1)) : Int).toNat : List (S42))).bind fun y323 => (if y320.length + y323.length < 4398046511104 then ((snowplan_Greatest.f kj7 (y320 ++ y323) l1 a2).bind fun t330 => (some (decide (t330 ≤ t302)))) else (none))) else (none)) else (none)) = some r := by first | (rw [hy320]; with_reducible exact H) | (have H2_ := (Option.bind_some _ _).symm.trans H; rw [hy320]; with_reducible exact H2_) | (have H2_ := (Option.bind_some _ _).symm.trans H; with_reducible exact H2_) | with_reducible exact H | (rw [hy320]; exact H) | exact H
                have Ny320 := Aside0.mk hy320
                clear hy320
                obtain ⟨ji46, hji46⟩ : ∃ j_ : Int, (wrap64 ((ji42) + 1)) = j_ := ⟨_, rfl⟩
                replace H : (if 0 ≤ (ji46) then (if (ji46) ≤ (l0.length : Int) then ((some (l0.drop ((ji46) : Int).toNat : List (S42))).bind fun y323 => (if y320.length + y323.length < 4398046511104 then ((snowplan_Greatest.f kj7 (y320 ++ y323) l1 a2).bind fun t330 => (some (decide (t330 ≤ t302)))) else (none))) else (none)) else (none)) = some r := by first | (rw [hji46] at H; exact H) | (simp only [hji46] at H ⊢; exact H)
                (try rw [hji46] at A19)
                (try rw [hji46] at A20)
                (try rw [hji46] at A30)
                have hji46w : (IntKind.i64.wrap ((ji42) + 1)) = ji46 := (i64_w _).trans hji46
                by_cases c47 : 0 ≤ (ji46)
                ·rw [if_pos c47] at H
                 have c47b0 := eq_true c47
                 have c47b1 : decide (0 ≤ (ji46)) = true := decide_eq_true c47
                 clear c47
                 by_cases c48 : (ji46) ≤ (l0.length : Int)
                 ·rw [if_pos c48] at H
                  have c48b0 := eq_true c48
                  have c48b1 : decide ((ji46) ≤ (l0.length : Int)) = true := decide_eq_true c48
                  clear c48
                  obtain ⟨y323, hy323⟩ : ∃ y_ : List (S42), y_ = (l0.drop ((ji46) : Int).toNat) := ⟨_, rfl⟩
                  replace H : (if y320.length + y323.length < 4398046511104 then ((snowplan_Greatest.f kj7 (y320 ++ y323) l1 a2).bind fun t330 => (some (decide (t330 ≤ t302)))) else (none)) = some r := by first | (rw [hy323]; with_reducible exact H) | (have H2_ := (Option.bind_some _ _).symm.trans H; rw [hy323]; with_reducible exact H2_) | (have H2_ := (Option.bind_some _ _).symm.trans H; with_reducible exact H2_) | with_reducible exact H | (rw [hy323]; exact H) | exact H
                  have Ny323 := Aside0.mk hy323
                  clear hy323
                  by_cases c49 : y320.length + y323.length < 4398046511104
                  ·rw [if_pos c49] at H
                   have LMc49 := Aside0.mk c49
                   clear c49
                   obtain ⟨y327, hy327⟩ : ∃ y_ : List (S42), y_ = (y320 ++ y323) := ⟨_, rfl⟩
                   replace H : ((snowplan_Greatest.f kj7 y327 l1 a2).bind fun t330 => (some (decide (t330 ≤ t302)))) = some r := by first | (rw [hy327]; with_reducible exact H) | (have H2_ := (Option.bind_some _ _).symm.trans H; rw [hy327]; with_reducible exact H2_) | (have H2_ := (Option.bind_some _ _).symm.trans H; with_reducible exact H2_) | with_reducible exact H | (rw [hy327]; exact H) | exact H
                   have Ny327 := Aside0.mk hy327
                   clear hy327
                   replace H := Option.bind_eq_some_iff.mp H
                   obtain ⟨t330, A500, H⟩ := H
                   replace H : (some (decide (t330 ≤ t302))) = some r := H
                   have A50 := Aside0.mk A500
                   clear A500
                   obtain rfl := Option.some.inj H
                   try go_wp2_with (first | ((with_reducible refine gate_callee (f := 13) rfl ?_); refine goesL_ (some 43) rfl rfl Try.func13 (by kernel_rfl) rfl #[.slice A0 l0.length c0, .slice A1 l1.length c1, .int .i64 a2] rfl (by (try simp only [List.map_toArray, List.map_cons, List.map_nil]); first | done | rfl | (simp only [List.length_drop, List.length_take]; rfl)) ?_; (with_reducible refine (snowplan_Greatest.calls kj7 _ _ l0 _ _ l1 a2 t302 _ ?side1 ?side2 ?side3 ?side4 A19.out).mono ?_); (case side1 => repeat (first | exact (Kd.C_below HR0.out HB.out) | (with_reducible refine Kd.C_alloc ?_ _) | (with_reducible refine Kd.C_drewN ?_ _) | (with_reducible refine Kd.C_drew ?_))); (case side2 => exact HC0.out); (case side3 => repeat (first | exact (Kd.C_below HR1.out HB.out) | (with_reducible refine Kd.C_alloc ?_ _) | (with_reducible refine Kd.C_drewN ?_ _) | (with_reducible refine Kd.C_drew ?_))); (case side4 => exact HC1.out); rintro e w51 ⟨rfl, hb⟩; refine ⟨_, rfl, ?_⟩; have n0_ := Aside0.mk (below_step (by repeat (first | (with_reducible first | exact HB.out | apply below_alloc | apply pw_below_drewN | apply below_drew1) | exact HB.out)) hb); clear HB; have HB := n0_; clear n0_; (try clear hb); (try clear hb2); (try clear hk); (try clear hi)) | ((with_reducible refine gate_callee (f := 13) rfl ?_); refine goesL_ (some 50) rfl rfl Try.func13 (by kernel_rfl) rfl #[.slice A0 l0.length c0, .slice A1 l1.length c1, .int .i64 (wrap64 (a2 + (wrap64 (a3))))] rfl (by (try simp only [List.map_toArray, List.map_cons, List.map_nil]); first | done | rfl | (simp only [List.length_drop, List.length_take]; rfl)) ?_; (with_reducible refine (snowplan_Greatest.calls kj7 _ _ l0 _ _ l1 (wrap64 (a2 + (wrap64 (a3)))) t303 _ ?side1 ?side2 ?side3 ?side4 A20.out).mono ?_); (case side1 => repeat (first | exact (Kd.C_below HR0.out HB.out) | (with_reducible refine Kd.C_alloc ?_ _) | (with_reducible refine Kd.C_drewN ?_ _) | (with_reducible refine Kd.C_drew ?_))); (case side2 => exact HC0.out); (case side3 => repeat (first | exact (Kd.C_below HR1.out HB.out) | (with_reducible refine Kd.C_alloc ?_ _) | (with_reducible refine Kd.C_drewN ?_ _) | (with_reducible refine Kd.C_drew ?_))); (case side4 => exact HC1.out); rintro e w52 ⟨rfl, hb⟩; refine ⟨_, rfl, ?_⟩; have n0_ := Aside0.mk (below_step (by repeat (first | (with_reducible first | exact HB.out | apply below_alloc | apply pw_below_drewN | apply below_drew1) | exact HB.out)) hb); clear HB; have HB := n0_; clear n0_; (try clear hb); (try clear hb2); (try clear hk); (try clear hi)) | ((with_reducible refine gate_dst (N := 56) rfl ?_); (try (refine gate_guard (by rfl) ?_; dsimp only)); refine Kd.R_lit k39 _ 39 ?hg (N := 56) ?hd (xs := ([] : List (S39))) (inner := []) (ok := fun _ => True) (okp := fun _ => True) ?hr ?hp (fun _ hk => hk) trivial (Below.refl _ _) (Nat.le_refl _) (by simp) ?_; (case hd => rfl); (case hg => rfl); (case hr => first | (go_simp; done) | (go_simp; rfl)); (case hp => exact (Reps.none _ _)); intro v305 w53 ho54 hb hg_ hnew_; clear hg_ hnew_; (first | rw [← Ny304.out] at ho54 | (simp only [Int.reduceToNat] at ho54; rw [← Ny304.out] at ho54)); have n0_ := Aside0.mk (Kd.R_lower ho54 (below_size (by repeat (first | (with_reducible first | exact HB.out | apply below_alloc | apply pw_below_drewN | apply below_drew1) | exact HB.out)))); have n1_ := Aside0.mk (below_step (by repeat (first | (with_reducible first | exact HB.out | apply below_alloc | apply pw_below_drewN | apply below_drew1) | exact HB.out)) hb); clear HB; have HO306 := n0_; have HB := n1_; clear n0_ n1_; clear hb ho54) | ((with_reducible refine gate_builtin (b := .append) (xs := #[.tmp 56, .tmp 57]) rfl ?_); (try (refine gate_guard (by rfl) ?_; dsimp only)); at_builtin; refine Kd.R_append_rows k39 (w0 := w) w.heap.size rfl (.tmp 56) (.tmp 57) 23 39 (.agg #[(.int .i64 0), (.int .i64 0)]) 16 rfl Try.underlying23 info39 rfl (by decide) (by omega) v305 y304 l1 _ _ _ (fun _ => True) (fun _ => False) rfl rfl ?aO ?aR (fun _ _ h => h) (fun _ h => h.elim) ?aF ?aB ?aS ?aL ?_; (case aR => repeat (first | exact (Kd.C_below HR1.out HB.out) | (with_reducible refine Kd.C_alloc ?_ _) | (with_reducible refine Kd.C_drewN ?_ _) | (with_reducible refine Kd.C_drew ?_))); (case aB => exact (by repeat (first | (with_reducible first | exact HB.out | apply below_alloc | apply pw_below_drewN | apply below_drew1) | exact HB.out))); (case aF => exact (fun _ _ => trivial)); (case aO => exact (by (with_reducible repeat (first | apply Kd.R_alloc | apply Kd.R_drewN | apply Kd.R_drew)); exact HO306.out)); (case aS => exact (below_size (by repeat (first | (with_reducible first | exact HB.out | apply below_alloc | apply pw_below_drewN | apply below_drew1) | exact HB.out)))); (case aL => have := LMc23.out; omega); intro v308 w55 ho hb hg hat; rw [← Ny307.out] at ho; have n0_ := Aside0.mk (hb); have n1_ := Aside0.mk (ho); clear HB; clear HO306; have HB := n0_; have HO309 := n1_; clear n0_ n1_; clear ho hb hg hat; obtain ⟨Ao56, co56, eo56⟩ := Kd.R_slice HO309.out; subst eo56; have p310 : 0 ≤ ((ji25) : Int) := of_decide_eq_true (by first | (with_reducible assumption) | assumption); have q310 : (ji25) < (y307.length : Int) := of_decide_eq_true (by first | (with_reducible assumption) | assumption); obtain ⟨ad310, e310, hx310_0, hx310_1⟩ := at_T39 (Kd.R_reads' HO309.out).2.2 (ji25) p310 q310; cases e310; replace p310 := eq_true p310; replace q310 := eq_true q310; have p29 : 0 ≤ ((ji25) : Int) := of_decide_eq_true (by first | (with_reducible assumption) | assumption); have q29 : ((ji25) : Int) < ((y307.length : Int) : Int) := of_decide_eq_true (by first | (with_reducible assumption) | assumption); obtain ⟨go29, co29, eo29, gb29, gl29, cl29, HG29⟩ := Kd.R_form HO309.out (by omega); (first | cases eo29 | (injection eo29 with ea_ en_ ec_; (first | subst ea_ | (injection ea_ with ea_; subst ea_)); subst ec_; clear en_)); have GB29 := Aside0.mk gb29; have GG29 := Aside0.mk HG29; clear gb29 gl29 HG29; (first | simp only [add_plain] at hx310_0 | skip); (first | simp only [add_plain] at hx310_1 | skip); obtain ⟨ce29, hcl29, hM29, hcc29, hfr29⟩ := Kd.R_elem HO309.out z39 ((ji25) : Int) p29 q29; obtain rfl := k39_openM hM29; have hx29_0 : w55.cell? ⟨go29, ((ji25) : Int).toNat * 2, none⟩ = some (.int .i64 ((rd_T39 y307 (ji25)).f0)) := hcc29 0 _ rfl; have hx29_1 : w55.cell? ⟨go29, ((ji25) : Int).toNat * 2 + 1, none⟩ = some (.int .i64 ((rd_T39 y307 (ji25)).f1)) := hcc29 1 _ rfl; have hf29_0 : w55.frozen? ⟨go29, ((ji25) : Int).toNat * 2, none⟩ = false := hfr29 0; have hf29_1 : w55.frozen? ⟨go29, ((ji25) : Int).toNat * 2 + 1, none⟩ = false := hfr29 1; clear hcl29 hcc29 hfr29 hM29; replace p29 := eq_true p29; replace q29 := eq_true q29; have HX57 := Aside0.mk (show Kd.R k39 39 w55 w.heap.size (fun _ => True) (.slice (some ⟨go29, 0, none⟩) y307.length co56) y307 from (by (with_reducible repeat (first | apply Kd.R_alloc | apply Kd.R_drewN | apply Kd.R_drew)); exact HO309.out)); obtain ⟨ce57, hcl57, hM57, hcc57, hfr57⟩ := Kd.R_elem HX57.out z39 ((ji25) : Int) (of_decide_eq_true (by first | (with_reducible assumption) | assumption)) (by have h_ : ((ji25) : Int) < ((y307.length : Int) : Int) := of_decide_eq_true (by first | (with_reducible assumption) | assumption); first | exact h_ | (have e_ := (Kd.R_reads' HO309.out).1; omega) | simpa using h_); obtain rfl := k39_openM hM57; have HP57 := Kd.R_seg HX57.out ((ji25) : Int) (of_decide_eq_true (by first | (with_reducible assumption) | assumption)) (by have h_ : ((ji25) : Int) < ((y307.length : Int) : Int) := of_decide_eq_true (by first | (with_reducible assumption) | assumption); first | exact h_ | (have e_ := (Kd.R_reads' HO309.out).1; omega) | simpa using h_) (seg := [.int .i64 ji28]) (j := 0) hcl57 hcc57 (show 1 ≤ 2 from by decide) (x' := (⟨ji28, (rd_T39 y307 (ji25)).f1⟩ : S39)) (k39_mkM _ _ _ (⟨ji28, (rd_T39 y307 (ji25)).f1⟩ : S39) ) (fun _ hk => hk); have hx57_0 := hcc57 0 _ rfl; (try simp only [show (k39).sz = 2 from rfl, Nat.mul_one, Nat.add_zero] at hx57_0); have hf57_0 := hfr57 0; (try simp only [show (k39).sz = 2 from rfl, Nat.mul_one, Nat.add_zero] at hf57_0); clear hcl57 hcc57 hfr57 hM57) | ((with_reducible refine gate_store (t := 3) (p := 76) rfl ?_); refine store_event (t := 3) (p := 76) (v := ?vo_w58) (w1 := (w55.setCell ⟨go29, ((ji25) : Int).toNat * 2, none⟩ (.int .i64 ji28))) ?hg ?ho ?hn ?hr ?_; (case ho => rfl); (case hg => rfl); (case hn => rfl); (case hr => first | (go_simp; done) | (go_simp; rfl)); intro w58 hw; have hg : w55.grownBy w58 (some go29) := (by rw [hw]; exact HP57.2); have hp_ : Kd.R k39 39 w58 w.heap.size (fun _ => True) (.slice (some ⟨go29, 0, none⟩) y307.length co56) y311 := (by rw [hw, Ny311.out]; exact HP57.1); clear HP57; have n0_ := Aside0.mk (hp_); have n1_ := Aside0.mk ((by rw [hw]; exact below_set (HB.out) GB29.out : Below w.heap.size w w58)); clear HO309; clear HB; have HO309 := n0_; have HB := n1_; clear n0_ n1_; clear hg hw hp_) | ((with_reducible refine gate_callee (f := 13) rfl ?_); refine goesL_ (some 80) rfl rfl Try.func13 (by kernel_rfl) rfl #[.slice A0 l0.length c0, .slice (some ⟨go29, 0, none⟩) y311.length co56, .int .i64 a2] rfl (by (try simp only [List.map_toArray, List.map_cons, List.map_nil]); first | done | (rw [show y311.length = y307.length from (Kd.R_reads' HO309.out).1.symm] <;> rfl) | rfl | (simp only [List.length_drop, List.length_take]; rfl)) ?_; (with_reducible refine (snowplan_Greatest.calls kj7 _ _ l0 _ _ y311 a2 t312 _ ?side1 ?side2 ?side3 ?side4 A30.out).mono ?_); (case side1 => repeat (first | exact (Kd.C_below HR0.out HB.out) | (with_reducible refine Kd.C_alloc ?_ _) | (with_reducible refine Kd.C_drewN ?_ _) | (with_reducible refine Kd.C_drew ?_))); (case side2 => exact HC0.out); (case side3 => repeat (first | exact (Kd.R_reads' HO309.out).2.2 | (with_reducible refine Kd.C_alloc ?_ _) | (with_reducible refine Kd.C_drewN ?_ _) | (with_reducible refine Kd.C_drew ?_))); (case side4 => rw [show y311.length = y307.length from (Kd.R_reads' HO309.out).1.symm]; exact (Kd.R_reads' HO309.out).2.1); rintro e w59 ⟨rfl, hb⟩; refine ⟨_, rfl, ?_⟩; have n0_ := Aside0.mk (Kd.R_below (by (with_reducible repeat (first | apply Kd.R_alloc | apply Kd.R_drewN | apply Kd.R_drew)); exact HO309.out) hb); have n1_ := Aside0.mk (below_step (by repeat (first | (with_reducible first | exact HB.out | apply below_alloc | apply pw_below_drewN | apply below_drew1) | exact HB.out)) hb); clear HO309; clear HB; have HO309 := n0_; have HB := n1_; clear n0_ n1_; (try clear hb); (try clear hb2); (try clear hk); (try clear hi)))
                   have n0_ := Aside0.mk (Kd.R_drew HO309.out)
                   have n1_ := Aside0.mk (below_drew1 HB.out)
                   clear HO309
                   clear HB
                   have HO309 := n0_
                   have HB := n1_
                   clear n0_ n1_
                   have q61 : ((ji42) : Int) ≤ ((l0.length : Int) : Int) := of_decide_eq_true (by first | (with_reducible assumption) | assumption)
                   obtain ⟨i061, hi061, _, hsz61, _⟩ := info_parts info42
                   have hroom61 : l0.length ≤ c0 := HC0.out
                   have hC61 : Kd.C k42 _ A0 l0.length l0 := HR0.out
                   have hcut61 := cut_to (P := Try.prog) 22 42 .i64 Try.underlying22 hi061 A0 l0.length c0 (ji42) (of_decide_eq_true (by first | (with_reducible assumption) | assumption)) q61 hroom61
                   have hr61 := Kd.C_take (m := ((ji42) : Int).toNat) hC61 (by omega)
                   have hy61 : y316.length = ((ji42) : Int).toNat := (by rw [Ny316.out, List.length_take]; omega)
                   rw [← Ny316.out] at hr61
                   rw [← hy61] at hcut61
                   have HR319 := Aside0.mk hr61
                   have HC319 := Aside0.mk (show y316.length ≤ c0 from by omega)
                   clear hr61 hC61 hroom61 hi061 hsz61
                   have KY61 := Aside0.mk hy61
                   clear hy61
                   replace q61 := eq_true q61
                   have q62 : ((ji46) : Int) ≤ ((l0.length : Int) : Int) := of_decide_eq_true (by first | (with_reducible assumption) | assumption)
                   obtain ⟨i062, hi062, _, hsz62, _⟩ := info_parts info42
                   have hroom62 : l0.length ≤ c0 := HC0.out
                   have hC62 : Kd.C k42 _ A0 l0.length l0 := HR0.out
                   have q062 : (0 : Int) ≤ ((ji46) : Int) := of_decide_eq_true (by first | (with_reducible assumption) | assumption)
                   have hcut62 := cut_from (P := Try.prog) 22 42 .i64 Try.underlying22 hi062 4 hsz62 A0 l0.length c0 (ji46) q062 q62
                   have hr62 := Kd.C_drop (m := ((ji46) : Int).toNat) (c := c0) hC62 (by omega) hroom62
                   obtain ⟨A62, hA62⟩ : ∃ z_, z_ = (if c0 = ((ji46) : Int).toNat then A0 else (A0 : Option Addr).map (·.add (((ji46) : Int).toNat * 4))) := ⟨_, rfl⟩
                   obtain ⟨c62, hc62⟩ : ∃ z_, z_ = c0 - ((ji46) : Int).toNat := ⟨_, rfl⟩
                   have hy62 : y323.length = l0.length - ((ji46) : Int).toNat := (by rw [Ny323.out, List.length_drop] <;> omega)
                   rw [show (l0).drop ((ji46) : Int).toNat = y323 from Ny323.out.symm] at hr62
                   replace hr62 : Kd.C k42 _ A62 y323.length y323 := (by rw [hA62]; exact hr62)
                   rw [← hy62, ← hA62, ← hc62] at hcut62
                   have HR326 := Aside0.mk hr62
                   have HC326 := Aside0.mk (show y323.length ≤ c62 from by rw [hy62, hc62]; exact Nat.sub_le_sub_right hroom62 _)
                   clear hr62 hC62 hroom62 hi062 hsz62 hc62
                   have KY62 := Aside0.mk hy62
                   have KA62 := Aside0.mk hA62
                   clear hy62 hA62
                   replace q62 := eq_true q62
                   refine start_ (n := 11) (S := fun w' => True) (ds := []) #[false, false, false, false, false, false, false, false, false, false, false] (by kernel_rfl) rfl rfl trivial (fun hHeld => ?_); refine with_tabW skiarealaw43_SnowplanMore.tab17 skiarealaw43_SnowplanMore.bits17 (fun HT_ HW_ => ?_)
                   generalize w59.drew = w60 at HO309 HB HR319 HR326 hHeld ⊢
                   refine pure_ (i := 1) (N := some 94) (v := ?_) (a' := ?_) #[false, true, false, false, false, false, false, false, false, false, false] rfl rfl (any_of HT_.out (by kernel_rfl)) (fun _ _ _ h => h) (Or.inl ⟨by rfl, ?_⟩) ?_ ?_
                   rotate_left
                   ·intro w'
                    go_simp
                    with_reducible rfl
                   rotate_left
                   ·simp only [Act.put, List.setIfInBounds_toArray, List.set_cons_zero, List.set_cons_succ, i64_w, i32_w]
                    rfl
                   refine pure_ (i := 2) (N := some 95) (v := ?_) (a' := ?_) #[false, true, true, false, false, false, false, false, false, false, false] rfl rfl (any_of HT_.out (by kernel_rfl)) (fun _ _ _ h => h) (Or.inl ⟨by rfl, ?_⟩) ?_ ?_
                   rotate_left
                   ·intro w'
                    go_simp
                    with_reducible rfl
                   rotate_left
                   ·simp only [Act.put, List.setIfInBounds_toArray, List.set_cons_zero, List.set_cons_succ, i64_w, i32_w]
                    rfl
                   refine pure_ (i := 3) (N := some 96) (v := ?_) (a' := ?_) #[false, true, true, true, false, false, false, false, false, false, false] rfl rfl (any_of HT_.out (by kernel_rfl)) (fun _ _ _ h => h) (Or.inl ⟨by rfl, ?_⟩) ?_ ?_
                   rotate_left
                   ·intro w'
                    go_simp
                    with_reducible rfl
                   rotate_left
                   ·simp only [Act.put, List.setIfInBounds_toArray, List.set_cons_zero, List.set_cons_succ, i64_w, i32_w]
                    rfl
                   refine pure_ (i := 5) (N := some 98) (v := ?_) (a' := ?_) #[false, true, true, true, false, true, false, false, false, false, false] rfl rfl (any_of HT_.out (by kernel_rfl)) (fun _ _ _ h => h) (Or.inl ⟨by rfl, ?_⟩) ?_ ?_
                   rotate_left
                   ·intro w'
                    go_simp
                    with_reducible rfl
                   rotate_left
                   ·simp only [Act.put, List.setIfInBounds_toArray, List.set_cons_zero, List.set_cons_succ, i64_w, i32_w]
                    rfl
                   refine pure_ (i := 6) (N := some 99) (v := ?_) (a' := ?_) #[false, true, true, true, false, true, true, false, false, false, false] rfl rfl (any_of HT_.out (by kernel_rfl)) (fun _ _ _ h => h) (Or.inl ⟨by rfl, ?_⟩) ?_ ?_
                   rotate_left
                   ·intro w'
                    go_simp
                    with_reducible rfl
                   rotate_left
                   ·simp only [Act.put, List.setIfInBounds_toArray, List.set_cons_zero, List.set_cons_succ, i64_w, i32_w]
                    rfl
                   refine pure_ (i := 7) (N := some 100) (v := ?_) (a' := ?_) #[false, true, true, true, false, true, true, true, false, false, false] rfl rfl (any_of HT_.out (by kernel_rfl)) (fun _ _ _ h => h) (Or.inl ⟨by rfl, ?_⟩) ?_ ?_
                   rotate_left
                   ·intro w'
                    go_simp
                    with_reducible rfl
                   rotate_left
                   ·simp only [Act.put, List.setIfInBounds_toArray, List.set_cons_zero, List.set_cons_succ, i64_w, i32_w]
                    rfl
                   refine pure_ (i := 8) (N := some 101) (v := ?_) (a' := ?_) #[false, true, true, true, false, true, true, true, true, false, false] rfl rfl (any_of HT_.out (by kernel_rfl)) (fun _ _ _ h => h) (Or.inl ⟨by rfl, ?_⟩) ?_ ?_
                   rotate_left
                   ·intro w'
                    go_simp
                    with_reducible rfl
                   rotate_left
                   ·simp only [Act.put, List.setIfInBounds_toArray, List.set_cons_zero, List.set_cons_succ, i64_w, i32_w]
                    rfl
                   refine one_ (i := 0) (N := some 93) #[true, true, true, true, false, true, true, true, true, false, false] rfl rfl (one_of HT_.out (by kernel_rfl)) (by decide) (fun K hK => ?_)
                   refine Kd.R_lit_step k42 _ 42 ?hg (N := 93) ?hd (xs := ([] : List (S42))) (inner := []) (ok := fun _ => True) (okp := fun _ => True) ?hr ?hp (fun _ hk => hk) trivial (Below.refl _ _) (Nat.le_refl _) (by simp) ?_; (case hd => rfl); (case hg => rfl); (case hr => first | (go_simp; done) | (go_simp; rfl)); (case hp => exact (Reps.none _ _))
                   intro v314 w63 ho64 hb hg_ hnew_
                   clear hg_ hnew_
                   (first | rw [← Ny313.out] at ho64 | (simp only [Int.reduceToNat] at ho64; rw [← Ny313.out] at ho64))
                   have n0_ := Aside0.mk (Kd.R_below (by (with_reducible repeat (first | apply Kd.R_alloc | apply Kd.R_drewN | apply Kd.R_drew)); exact HO309.out) hb)
                   have n1_ := Aside0.mk (Kd.R_lower ho64 (below_size (by repeat (first | (with_reducible first | exact HB.out | apply below_alloc | apply pw_below_drewN | apply below_drew1) | exact HB.out))))
                   have n2_ := Aside0.mk (below_step (by repeat (first | (with_reducible first | exact HB.out | apply below_alloc | apply pw_below_drewN | apply below_drew1) | exact HB.out)) hb)
                   clear HO309
                   clear HB
                   have HO309 := n0_
                   have HO315 := n1_
                   have HB := n2_
                   clear n0_ n1_ n2_
                   clear hb ho64
                   refine hK.out _ _ trivial (fun hHeld => ?_)
                   clear hK K
                   refine norm_ (a' := ?_) ?_ ?_
                   rotate_left
                   ·show Act.put _ (some 93) _ = _
                    simp only [Act.put, List.setIfInBounds_toArray, List.set_cons_zero, List.set_cons_succ, i64_w, i32_w]
                    rfl
                   refine one_ (i := 4) (N := some 97) #[true, true, true, true, true, true, true, true, true, false, false] rfl rfl (one_of HT_.out (by kernel_rfl)) (by decide) (fun K hK => ?_)
                   refine Kd.R_append_rows_step k42 (w0 := w) w.heap.size (by rfl) (.tmp 93) (.tmp 96) 22 42 (.agg #[(.int .i64 0), (.int .i64 0), (.int .i64 0), (.int .i64 0)]) 32 rfl Try.underlying22 info42 rfl (by decide) (by omega) v314 y313 y316 _ _ _ (fun _ => True) (fun _ => False) rfl rfl ?aO ?aR (fun _ _ h => h) (fun _ h => h.elim) ?aF ?aB ?aS ?aL ?_
                   (case aR => repeat (first | exact (Kd.C_below HR319.out HB.out) | (with_reducible refine Kd.C_alloc ?_ _) | (with_reducible refine Kd.C_drewN ?_ _) | (with_reducible refine Kd.C_drew ?_)))
                   (case aB => exact (by repeat (first | (with_reducible first | exact HB.out | apply below_alloc | apply pw_below_drewN | apply below_drew1) | exact HB.out)))
                   (case aF => exact (fun _ _ => trivial))
                   (case aO => exact (by (with_reducible repeat (first | apply Kd.R_alloc | apply Kd.R_drewN | apply Kd.R_drew)); exact HO315.out))
                   (case aS => exact (below_size (by repeat (first | (with_reducible first | exact HB.out | apply below_alloc | apply pw_below_drewN | apply below_drew1) | exact HB.out))))
                   (case aL => have := LMc45.out; omega)
                   intro v321 w65 ho hb hg hat
                   rw [← Ny320.out] at ho
                   have n0_ := Aside0.mk (Kd.R_over' (by (with_reducible repeat (first | apply Kd.R_alloc | apply Kd.R_drewN | apply Kd.R_drew)); exact HO309.out) (Kd.R_typed (by (with_reducible repeat (first | apply Kd.R_alloc | apply Kd.R_drewN | apply Kd.R_drew)); exact HO315.out)) (by decide) hg)
                   have n1_ := Aside0.mk (hb)
                   have n2_ := Aside0.mk (ho)
                   clear HO309
                   clear HB
                   clear HO315
                   have HO309 := n0_
                   have HB := n1_
                   have HO322 := n2_
                   clear n0_ n1_ n2_
                   clear ho hb hg hat
                   refine hK.out _ _ trivial (fun hHeld => ?_)
                   clear hK K
                   refine norm_ (a' := ?_) ?_ ?_
                   rotate_left
                   ·show Act.put _ (some 97) _ = _
                    simp only [Act.put, List.setIfInBounds_toArray, List.set_cons_zero, List.set_cons_succ, i64_w, i32_w]
                    rfl
                   refine one_ (i := 9) (N := some 102) #[true, true, true, true, true, true, true, true, true, true, false] rfl rfl (one_of HT_.out (by kernel_rfl)) (by decide) (fun K hK => ?_)
                   refine Kd.R_append_rows_step k42 (w0 := w) w.heap.size (by rfl) (.tmp 97) (.tmp 101) 22 42 (.agg #[(.int .i64 0), (.int .i64 0), (.int .i64 0), (.int .i64 0)]) 32 rfl Try.underlying22 info42 rfl (by decide) (by omega) v321 y320 y323 _ _ _ (fun _ => True) (fun _ => False) rfl rfl ?aO ?aR (fun _ _ h => h) (fun _ h => h.elim) ?aF ?aB ?aS ?aL ?_
                   (case aR => repeat (first | exact (Kd.C_below HR326.out HB.out) | (with_reducible refine Kd.C_alloc ?_ _) | (with_reducible refine Kd.C_drewN ?_ _) | (with_reducible refine Kd.C_drew ?_)))
                   (case aB => exact (by repeat (first | (with_reducible first | exact HB.out | apply below_alloc | apply pw_below_drewN | apply below_drew1) | exact HB.out)))
                   (case aF => exact (fun _ _ => trivial))
                   (case aO => exact (by (with_reducible repeat (first | apply Kd.R_alloc | apply Kd.R_drewN | apply Kd.R_drew)); exact HO322.out))
                   (case aS => exact (below_size (by repeat (first | (with_reducible first | exact HB.out | apply below_alloc | apply pw_below_drewN | apply below_drew1) | exact HB.out))))
                   (case aL => have := LMc49.out; omega)
                   intro v328 w66 ho hb hg hat
                   rw [← Ny327.out] at ho
                   have n0_ := Aside0.mk (Kd.R_over' (by (with_reducible repeat (first | apply Kd.R_alloc | apply Kd.R_drewN | apply Kd.R_drew)); exact HO309.out) (Kd.R_typed (by (with_reducible repeat (first | apply Kd.R_alloc | apply Kd.R_drewN | apply Kd.R_drew)); exact HO322.out)) (by decide) hg)
                   have n1_ := Aside0.mk (hb)
                   have n2_ := Aside0.mk (ho)
                   clear HO309
                   clear HB
                   clear HO322
                   have HO309 := n0_
                   have HB := n1_
                   have HO329 := n2_
                   clear n0_ n1_ n2_
                   clear ho hb hg hat
                   refine hK.out _ _ trivial (fun hHeld => ?_)
                   clear hK K
                   refine norm_ (a' := ?_) ?_ ?_
                   rotate_left
                   ·show Act.put _ (some 102) _ = _
                    simp only [Act.put, List.setIfInBounds_toArray, List.set_cons_zero, List.set_cons_succ, i64_w, i32_w]
                    rfl
                   refine pure_ (i := 10) (N := some 15) (v := ?_) (a' := ?_) #[true, true, true, true, true, true, true, true, true, true, true] rfl rfl (any_of HT_.out (by kernel_rfl)) (fun _ _ _ h => h) (Or.inl ⟨by rfl, ?_⟩) ?_ ?_
                   rotate_left
                   ·intro w'
                    go_simp
                    with_reducible rfl
                   rotate_left
                   ·simp only [Act.put, List.setIfInBounds_toArray, List.set_cons_zero, List.set_cons_succ, i64_w, i32_w]
                    rfl
                   refine done_ (done_of HT_.out (by kernel_rfl)) ?_
                   obtain ⟨Ao67, co67, eo67⟩ := Kd.R_slice HO329.out
                   subst eo67
                   try go_wp2_with (first | ((with_reducible refine gate_callee (f := 13) rfl ?_); refine goesL_ (some 106) rfl rfl Try.func13 (by kernel_rfl) rfl #[.slice Ao67 y327.length co67, .slice A1 l1.length c1, .int .i64 a2] rfl (by (try simp only [List.map_toArray, List.map_cons, List.map_nil]); first | done | rfl | (simp only [List.length_drop, List.length_take]; rfl)) ?_; (with_reducible refine (snowplan_Greatest.calls kj7 _ _ y327 _ _ l1 a2 t330 _ ?side1 ?side2 ?side3 ?side4 A50.out).mono ?_); (case side1 => repeat (first | exact (Kd.R_reads' HO329.out).2.2 | (with_reducible refine Kd.C_alloc ?_ _) | (with_reducible refine Kd.C_drewN ?_ _) | (with_reducible refine Kd.C_drew ?_))); (case side2 => exact (Kd.R_reads' HO329.out).2.1); (case side3 => repeat (first | exact (Kd.C_below HR1.out HB.out) | (with_reducible refine Kd.C_alloc ?_ _) | (with_reducible refine Kd.C_drewN ?_ _) | (with_reducible refine Kd.C_drew ?_))); (case side4 => exact HC1.out); rintro e w68 ⟨rfl, hb⟩; refine ⟨_, rfl, ?_⟩; have n0_ := Aside0.mk (Kd.R_below (by (with_reducible repeat (first | apply Kd.R_alloc | apply Kd.R_drewN | apply Kd.R_drew)); exact HO309.out) hb); have n1_ := Aside0.mk (Kd.R_below (by (with_reducible repeat (first | apply Kd.R_alloc | apply Kd.R_drewN | apply Kd.R_drew)); exact HO329.out) hb); have n2_ := Aside0.mk (below_step (by repeat (first | (with_reducible first | exact HB.out | apply below_alloc | apply pw_below_drewN | apply below_drew1) | exact HB.out)) hb); clear HO309; clear HO329; clear HB; have HO309 := n0_; have HO329 := n1_; have HB := n2_; clear n0_ n1_ n2_; (try clear hb); (try clear hb2); (try clear hk); (try clear hi)))
                   go_ret
                   exact ⟨by first | rfl | (simp [errW_none, errW_some] <;> rfl) | (simp only [← hji25, ← hji28, ← hji42, ← hji46]; first | rfl | (simp [errW_none, errW_some] <;> rfl)) | (simp [*, errW_none, errW_some] <;> rfl), by repeat (first | (with_reducible first | exact HB.out | apply below_alloc | apply pw_below_drewN | apply below_drew1) | exact HB.out)⟩
                  ·rw [if_neg c49] at H
                   exact absurd H (by simp)
                 ·rw [if_neg c48] at H
                  exact absurd H (by simp)
                ·rw [if_neg c47] at H
                 exact absurd H (by simp)
               ·rw [if_neg c45] at H
                exact absurd H (by simp)
              ·rw [if_neg c44] at H
               exact absurd H (by simp)
             ·rw [if_neg c43] at H
              exact absurd H (by simp)
          ·rw [if_neg c27] at H
           exact absurd H (by simp)
         ·rw [if_neg c26] at H
          exact absurd H (by simp)
       ·rw [if_neg c23] at H
        exact absurd H (by simp)
      ·rw [if_neg c22] at H
       have c22b0 : decide (0 < (l1.length : Int)) = false := decide_eq_false c22
       have c22b1 : decide (0 < l1.length) = false := decide_eq_false (by omega)
       clear c22
       by_cases c69 : (l0.length : Int) = 0
       ·rw [if_pos c69] at H
        have c69b0 : ((l0.length : Int) == 0) = true := beq_iff_eq.mpr c69
        have c69b1 : ((l0.length : Int) != 0) = false := bne_eq_false_iff_eq.mpr c69
        clear c69
        obtain rfl := Option.some.inj H
        go_wp2_with (first | ((with_reducible refine gate_callee (f := 13) rfl ?_); refine goesL_ (some 43) rfl rfl Try.func13 (by kernel_rfl) rfl #[.slice A0 l0.length c0, .slice A1 l1.length c1, .int .i64 a2] rfl (by (try simp only [List.map_toArray, List.map_cons, List.map_nil]); first | done | rfl | (simp only [List.length_drop, List.length_take]; rfl)) ?_; (with_reducible refine (snowplan_Greatest.calls kj7 _ _ l0 _ _ l1 a2 t302 _ ?side1 ?side2 ?side3 ?side4 A19.out).mono ?_); (case side1 => repeat (first | exact (Kd.C_below HR0.out HB.out) | (with_reducible refine Kd.C_alloc ?_ _) | (with_reducible refine Kd.C_drewN ?_ _) | (with_reducible refine Kd.C_drew ?_))); (case side2 => exact HC0.out); (case side3 => repeat (first | exact (Kd.C_below HR1.out HB.out) | (with_reducible refine Kd.C_alloc ?_ _) | (with_reducible refine Kd.C_drewN ?_ _) | (with_reducible refine Kd.C_drew ?_))); (case side4 => exact HC1.out); rintro e w70 ⟨rfl, hb⟩; refine ⟨_, rfl, ?_⟩; have n0_ := Aside0.mk (below_step (by repeat (first | (with_reducible first | exact HB.out | apply below_alloc | apply pw_below_drewN | apply below_drew1) | exact HB.out)) hb); clear HB; have HB := n0_; clear n0_; (try clear hb); (try clear hb2); (try clear hk); (try clear hi)) | ((with_reducible refine gate_callee (f := 13) rfl ?_); refine goesL_ (some 50) rfl rfl Try.func13 (by kernel_rfl) rfl #[.slice A0 l0.length c0, .slice A1 l1.length c1, .int .i64 (wrap64 (a2 + (wrap64 (a3))))] rfl (by (try simp only [List.map_toArray, List.map_cons, List.map_nil]); first | done | rfl | (simp only [List.length_drop, List.length_take]; rfl)) ?_; (with_reducible refine (snowplan_Greatest.calls kj7 _ _ l0 _ _ l1 (wrap64 (a2 + (wrap64 (a3)))) t303 _ ?side1 ?side2 ?side3 ?side4 A20.out).mono ?_); (case side1 => repeat (first | exact (Kd.C_below HR0.out HB.out) | (with_reducible refine Kd.C_alloc ?_ _) | (with_reducible refine Kd.C_drewN ?_ _) | (with_reducible refine Kd.C_drew ?_))); (case side2 => exact HC0.out); (case side3 => repeat (first | exact (Kd.C_below HR1.out HB.out) | (with_reducible refine Kd.C_alloc ?_ _) | (with_reducible refine Kd.C_drewN ?_ _) | (with_reducible refine Kd.C_drew ?_))); (case side4 => exact HC1.out); rintro e w71 ⟨rfl, hb⟩; refine ⟨_, rfl, ?_⟩; have n0_ := Aside0.mk (below_step (by repeat (first | (with_reducible first | exact HB.out | apply below_alloc | apply pw_below_drewN | apply below_drew1) | exact HB.out)) hb); clear HB; have HB := n0_; clear n0_; (try clear hb); (try clear hb2); (try clear hk); (try clear hi)))
        go_ret
        exact ⟨by first | rfl | (simp [errW_none, errW_some] <;> rfl) | (simp [*, errW_none, errW_some] <;> rfl), by repeat (first | (with_reducible first | exact HB.out | apply below_alloc | apply pw_below_drewN | apply below_drew1) | exact HB.out)⟩
       ·rw [if_neg c69] at H
        have c69b0 : ((l0.length : Int) == 0) = false := beq_eq_false_iff_ne.mpr c69
        have c69b1 : ((l0.length : Int) != 0) = true := bne_iff_ne.mpr c69
        have c69b2 : ¬ (l0 = []) := fun h_ => c69 (by rw [h_]; rfl)
        obtain ⟨y331, hy331⟩ : ∃ y_ : List (S42), y_ = (([] : List (S42))) := ⟨_, rfl⟩
        replace H : (if 0 ≤ (Int.tmod (wrap64 (a4)) (l0.length : Int)) then (if (Int.tmod (wrap64 (a4)) (l0.length : Int)) ≤ (l0.length : Int) then ((some (l0.take ((Int.tmod (wrap64 (a4)) (l0.length : Int)) : Int).toNat : List (S42))).bind fun y334 => (if y331.length + y334.length < 4398046511104 then ((some (y331 ++ y334 : List (S42))).bind fun y338 => (if 0 ≤ (wrap64 ((Int.tmod (wrap64 (a4)) (l0.length : Int)) + 1)) then (if (wrap64 ((Int.tmod (wrap64 (a4)) (l0.length : Int)) + 1)) ≤ (l0.length : Int) then ((some (l0.drop ((wrap64 ((Int.tmod (wrap64 (a4)) (l0.length : Int)) + 1)) : Int).toNat : List (S42))).bind fun y341 => (if y338.length + y341.length < 4398046511104 then ((snowplan_Greatest.f kj7 (y338 ++ y341) l1 a2).bind fun t348 => (some (decide (t348 ≤ t302)))) else (none))) else (none)) else (none))) else (none))) else (none)) else (none)) = some r := by first | (rw [hy331]; with_reducible exact H) | (have H2_ := (Option.bind_some _ _).symm.trans H; rw [hy331]; with_reducible exact H2_) | (have H2_ := (Option.bind_some _ _).symm.trans H; with_reducible exact H2_) | with_reducible exact H | (rw [hy331]; exact H) | exact H
        have Ny331 := Aside0.mk hy331
        clear hy331
        obtain ⟨ji72, hji72⟩ : ∃ j_ : Int, (Int.tmod (wrap64 (a4)) (l0.length : Int)) = j_ := ⟨_, rfl⟩
        replace H : (if 0 ≤ (ji72) then (if (ji72) ≤ (l0.length : Int) then ((some (l0.take ((ji72) : Int).toNat : List (S42))).bind fun y334 => (if y331.length + y334.length < 4398046511104 then ((some (y331 ++ y334 : List (S42))).bind fun y338 => (if 0 ≤ (wrap64 ((ji72) + 1)) then (if (wrap64 ((ji72) + 1)) ≤ (l0.length : Int) then ((some (l0.drop ((wrap64 ((ji72) + 1)) : Int).toNat : List (S42))).bind fun y341 => (if y338.length + y341.length < 4398046511104 then ((snowplan_Greatest.f kj7 (y338 ++ y341) l1 a2).bind fun t348 => (some (decide (t348 ≤ t302)))) else (none))) else (none)) else (none))) else (none))) else (none)) else (none)) = some r := by first | (rw [hji72] at H; exact H) | (simp only [hji72] at H ⊢; exact H)
        (try rw [hji72] at A19)
        (try rw [hji72] at A20)
        by_cases c73 : 0 ≤ (ji72)
        ·rw [if_pos c73] at H
         have c73b0 := eq_true c73
         have c73b1 : decide (0 ≤ (ji72)) = true := decide_eq_true c73
         clear c73
         by_cases c74 : (ji72) ≤ (l0.length : Int)
         ·rw [if_pos c74] at H
          have c74b0 := eq_true c74
          have c74b1 : decide ((ji72) ≤ (l0.length : Int)) = true := decide_eq_true c74
          clear c74
          obtain ⟨y334, hy334⟩ : ∃ y_ : List (S42), y_ = (l0.take ((ji72) : Int).toNat) := ⟨_, rfl⟩
          replace H : (if y331.length + y334.length < 4398046511104 then ((some (y331 ++ y334 : List (S42))).bind fun y338 => (if 0 ≤ (wrap64 ((ji72) + 1)) then (if (wrap64 ((ji72) + 1)) ≤ (l0.length : Int) then ((some (l0.drop ((wrap64 ((ji72) + 1)) : Int).toNat : List (S42))).bind fun y341 => (if y338.length + y341.length < 4398046511104 then ((snowplan_Greatest.f kj7 (y338 ++ y341) l1 a2).bind fun t348 => (some (decide (t348 ≤ t302)))) else (none))) else (none)) else (none))) else (none)) = some r := by first | (rw [hy334]; with_reducible exact H) | (have H2_ := (Option.bind_some _ _).symm.trans H; rw [hy334]; with_reducible exact H2_) | (have H2_ := (Option.bind_some _ _).symm.trans H; with_reducible exact H2_) | with_reducible exact H | (rw [hy334]; exact H) | exact H
          have Ny334 := Aside0.mk hy334
          clear hy334
          by_cases c75 : y331.length + y334.length < 4398046511104
          ·rw [if_pos c75] at H
           have LMc75 := Aside0.mk c75
           clear c75
           obtain ⟨y338, hy338⟩ : ∃ y_ : List (S42), y_ = (y331 ++ y334) := ⟨_, rfl⟩
           replace H : (if 0 ≤ (wrap64 ((ji72) + 1)) then (if (wrap64 ((ji72) + 1)) ≤ (l0.length : Int) then ((some (l0.drop ((wrap64 ((ji72) + 1)) : Int).toNat : List (S42))).bind fun y341 => (if y338.length + y341.length < 4398046511104 then ((snowplan_Greatest.f kj7 (y338 ++ y341) l1 a2).bind fun t348 => (some (decide (t348 ≤ t302)))) else (none))) else (none)) else (none)) = some r := by first | (rw [hy338]; with_reducible exact H) | (have H2_ := (Option.bind_some _ _).symm.trans H; rw [hy338]; with_reducible exact H2_) | (have H2_ := (Option.bind_some _ _).symm.trans H; with_reducible exact H2_) | with_reducible exact H | (rw [hy338]; exact H) | exact H
           have Ny338 := Aside0.mk hy338
           clear hy338
           obtain ⟨ji76, hji76⟩ : ∃ j_ : Int, (wrap64 ((ji72) + 1)) = j_ := ⟨_, rfl⟩
           replace H : (if 0 ≤ (ji76) then (if (ji76) ≤ (l0.length : Int) then ((some (l0.drop ((ji76) : Int).toNat : List (S42))).bind fun y341 => (if y338.length + y341.length < 4398046511104 then ((snowplan_Greatest.f kj7 (y338 ++ y341) l1 a2).bind fun t348 => (some (decide (t348 ≤ t302)))) else (none))) else (none)) else (none)) = some r := by first | (rw [hji76] at H; exact H) | (simp only [hji76] at H ⊢; exact H)
           (try rw [hji76] at A19)
           (try rw [hji76] at A20)
           have hji76w : (IntKind.i64.wrap ((ji72) + 1)) = ji76 := (i64_w _).trans hji76
           by_cases c77 : 0 ≤ (ji76)
           ·rw [if_pos c77] at H
            have c77b0 := eq_true c77
            have c77b1 : decide (0 ≤ (ji76)) = true := decide_eq_true c77
            clear c77
            by_cases c78 : (ji76) ≤ (l0.length : Int)
            ·rw [if_pos c78] at H
             have c78b0 := eq_true c78
             have c78b1 : decide ((ji76) ≤ (l0.length : Int)) = true := decide_eq_true c78
             clear c78
             obtain ⟨y341, hy341⟩ : ∃ y_ : List (S42), y_ = (l0.drop ((ji76) : Int).toNat) := ⟨_, rfl⟩
             replace H : (if y338.length + y341.length < 4398046511104 then ((snowplan_Greatest.f kj7 (y338 ++ y341) l1 a2).bind fun t348 => (some (decide (t348 ≤ t302)))) else (none)) = some r := by first | (rw [hy341]; with_reducible exact H) | (have H2_ := (Option.bind_some _ _).symm.trans H; rw [hy341]; with_reducible exact H2_) | (have H2_ := (Option.bind_some _ _).symm.trans H; with_reducible exact H2_) | with_reducible exact H | (rw [hy341]; exact H) | exact H
             have Ny341 := Aside0.mk hy341
             clear hy341
             by_cases c79 : y338.length + y341.length < 4398046511104
             ·rw [if_pos c79] at H
              have LMc79 := Aside0.mk c79
              clear c79
              obtain ⟨y345, hy345⟩ : ∃ y_ : List (S42), y_ = (y338 ++ y341) := ⟨_, rfl⟩
              replace H : ((snowplan_Greatest.f kj7 y345 l1 a2).bind fun t348 => (some (decide (t348 ≤ t302)))) = some r := by first | (rw [hy345]; with_reducible exact H) | (have H2_ := (Option.bind_some _ _).symm.trans H; rw [hy345]; with_reducible exact H2_) | (have H2_ := (Option.bind_some _ _).symm.trans H; with_reducible exact H2_) | with_reducible exact H | (rw [hy345]; exact H) | exact H
              have Ny345 := Aside0.mk hy345
              clear hy345
              replace H := Option.bind_eq_some_iff.mp H
              obtain ⟨t348, A800, H⟩ := H
              replace H : (some (decide (t348 ≤ t302))) = some r := H
              have A80 := Aside0.mk A800
              clear A800
              obtain rfl := Option.some.inj H
              try go_wp2_with (first | ((with_reducible refine gate_callee (f := 13) rfl ?_); refine goesL_ (some 43) rfl rfl Try.func13 (by kernel_rfl) rfl #[.slice A0 l0.length c0, .slice A1 l1.length c1, .int .i64 a2] rfl (by (try simp only [List.map_toArray, List.map_cons, List.map_nil]); first | done | rfl | (simp only [List.length_drop, List.length_take]; rfl)) ?_; (with_reducible refine (snowplan_Greatest.calls kj7 _ _ l0 _ _ l1 a2 t302 _ ?side1 ?side2 ?side3 ?side4 A19.out).mono ?_); (case side1 => repeat (first | exact (Kd.C_below HR0.out HB.out) | (with_reducible refine Kd.C_alloc ?_ _) | (with_reducible refine Kd.C_drewN ?_ _) | (with_reducible refine Kd.C_drew ?_))); (case side2 => exact HC0.out); (case side3 => repeat (first | exact (Kd.C_below HR1.out HB.out) | (with_reducible refine Kd.C_alloc ?_ _) | (with_reducible refine Kd.C_drewN ?_ _) | (with_reducible refine Kd.C_drew ?_))); (case side4 => exact HC1.out); rintro e w81 ⟨rfl, hb⟩; refine ⟨_, rfl, ?_⟩; have n0_ := Aside0.mk (below_step (by repeat (first | (with_reducible first | exact HB.out | apply below_alloc | apply pw_below_drewN | apply below_drew1) | exact HB.out)) hb); clear HB; have HB := n0_; clear n0_; (try clear hb); (try clear hb2); (try clear hk); (try clear hi)) | ((with_reducible refine gate_callee (f := 13) rfl ?_); refine goesL_ (some 50) rfl rfl Try.func13 (by kernel_rfl) rfl #[.slice A0 l0.length c0, .slice A1 l1.length c1, .int .i64 (wrap64 (a2 + (wrap64 (a3))))] rfl (by (try simp only [List.map_toArray, List.map_cons, List.map_nil]); first | done | rfl | (simp only [List.length_drop, List.length_take]; rfl)) ?_; (with_reducible refine (snowplan_Greatest.calls kj7 _ _ l0 _ _ l1 (wrap64 (a2 + (wrap64 (a3)))) t303 _ ?side1 ?side2 ?side3 ?side4 A20.out).mono ?_); (case side1 => repeat (first | exact (Kd.C_below HR0.out HB.out) | (with_reducible refine Kd.C_alloc ?_ _) | (with_reducible refine Kd.C_drewN ?_ _) | (with_reducible refine Kd.C_drew ?_))); (case side2 => exact HC0.out); (case side3 => repeat (first | exact (Kd.C_below HR1.out HB.out) | (with_reducible refine Kd.C_alloc ?_ _) | (with_reducible refine Kd.C_drewN ?_ _) | (with_reducible refine Kd.C_drew ?_))); (case side4 => exact HC1.out); rintro e w82 ⟨rfl, hb⟩; refine ⟨_, rfl, ?_⟩; have n0_ := Aside0.mk (below_step (by repeat (first | (with_reducible first | exact HB.out | apply below_alloc | apply pw_below_drewN | apply below_drew1) | exact HB.out)) hb); clear HB; have HB := n0_; clear n0_; (try clear hb); (try clear hb2); (try clear hk); (try clear hi)))
              have n0_ := Aside0.mk (below_drew1 HB.out)
              clear HB
              have HB := n0_
              clear n0_
              have q84 : ((ji72) : Int) ≤ ((l0.length : Int) : Int) := of_decide_eq_true (by first | (with_reducible assumption) | assumption)
              obtain ⟨i084, hi084, _, hsz84, _⟩ := info_parts info42
              have hroom84 : l0.length ≤ c0 := HC0.out
              have hC84 : Kd.C k42 _ A0 l0.length l0 := HR0.out
              have hcut84 := cut_to (P := Try.prog) 22 42 .i64 Try.underlying22 hi084 A0 l0.length c0 (ji72) (of_decide_eq_true (by first | (with_reducible assumption) | assumption)) q84 hroom84
              have hr84 := Kd.C_take (m := ((ji72) : Int).toNat) hC84 (by omega)
              have hy84 : y334.length = ((ji72) : Int).toNat := (by rw [Ny334.out, List.length_take]; omega)
              rw [← Ny334.out] at hr84
              rw [← hy84] at hcut84
              have HR337 := Aside0.mk hr84
              have HC337 := Aside0.mk (show y334.length ≤ c0 from by omega)
              clear hr84 hC84 hroom84 hi084 hsz84
              have KY84 := Aside0.mk hy84
              clear hy84
              replace q84 := eq_true q84
              have q85 : ((ji76) : Int) ≤ ((l0.length : Int) : Int) := of_decide_eq_true (by first | (with_reducible assumption) | assumption)
              obtain ⟨i085, hi085, _, hsz85, _⟩ := info_parts info42
              have hroom85 : l0.length ≤ c0 := HC0.out
              have hC85 : Kd.C k42 _ A0 l0.length l0 := HR0.out
              have q085 : (0 : Int) ≤ ((ji76) : Int) := of_decide_eq_true (by first | (with_reducible assumption) | assumption)
              have hcut85 := cut_from (P := Try.prog) 22 42 .i64 Try.underlying22 hi085 4 hsz85 A0 l0.length c0 (ji76) q085 q85
              have hr85 := Kd.C_drop (m := ((ji76) : Int).toNat) (c := c0) hC85 (by omega) hroom85
              obtain ⟨A85, hA85⟩ : ∃ z_, z_ = (if c0 = ((ji76) : Int).toNat then A0 else (A0 : Option Addr).map (·.add (((ji76) : Int).toNat * 4))) := ⟨_, rfl⟩
              obtain ⟨c85, hc85⟩ : ∃ z_, z_ = c0 - ((ji76) : Int).toNat := ⟨_, rfl⟩
              have hy85 : y341.length = l0.length - ((ji76) : Int).toNat := (by rw [Ny341.out, List.length_drop] <;> omega)
              rw [show (l0).drop ((ji76) : Int).toNat = y341 from Ny341.out.symm] at hr85
              replace hr85 : Kd.C k42 _ A85 y341.length y341 := (by rw [hA85]; exact hr85)
              rw [← hy85, ← hA85, ← hc85] at hcut85
              have HR344 := Aside0.mk hr85
              have HC344 := Aside0.mk (show y341.length ≤ c85 from by rw [hy85, hc85]; exact Nat.sub_le_sub_right hroom85 _)
              clear hr85 hC85 hroom85 hi085 hsz85 hc85
              have KY85 := Aside0.mk hy85
              have KA85 := Aside0.mk hA85
              clear hy85 hA85
              replace q85 := eq_true q85
              refine start_ (n := 11) (S := fun w' => True) (ds := []) #[false, false, false, false, false, false, false, false, false, false, false] (by kernel_rfl) rfl rfl trivial (fun hHeld => ?_); refine with_tabW skiarealaw43_SnowplanMore.tab17 skiarealaw43_SnowplanMore.bits17 (fun HT_ HW_ => ?_)
              generalize w82.drew = w83 at HB HR337 HR344 hHeld ⊢
              refine pure_ (i := 1) (N := some 94) (v := ?_) (a' := ?_) #[false, true, false, false, false, false, false, false, false, false, false] rfl rfl (any_of HT_.out (by kernel_rfl)) (fun _ _ _ h => h) (Or.inl ⟨by rfl, ?_⟩) ?_ ?_
              rotate_left
              ·intro w'
               go_simp
               with_reducible rfl
              rotate_left
              ·simp only [Act.put, List.setIfInBounds_toArray, List.set_cons_zero, List.set_cons_succ, i64_w, i32_w]
               rfl
              refine pure_ (i := 2) (N := some 95) (v := ?_) (a' := ?_) #[false, true, true, false, false, false, false, false, false, false, false] rfl rfl (any_of HT_.out (by kernel_rfl)) (fun _ _ _ h => h) (Or.inl ⟨by rfl, ?_⟩) ?_ ?_
              rotate_left
              ·intro w'
               go_simp
               with_reducible rfl
              rotate_left
              ·simp only [Act.put, List.setIfInBounds_toArray, List.set_cons_zero, List.set_cons_succ, i64_w, i32_w]
               rfl
              refine pure_ (i := 3) (N := some 96) (v := ?_) (a' := ?_) #[false, true, true, true, false, false, false, false, false, false, false] rfl rfl (any_of HT_.out (by kernel_rfl)) (fun _ _ _ h => h) (Or.inl ⟨by rfl, ?_⟩) ?_ ?_
              rotate_left
              ·intro w'
               go_simp
               with_reducible rfl
              rotate_left
              ·simp only [Act.put, List.setIfInBounds_toArray, List.set_cons_zero, List.set_cons_succ, i64_w, i32_w]
               rfl
              refine pure_ (i := 5) (N := some 98) (v := ?_) (a' := ?_) #[false, true, true, true, false, true, false, false, false, false, false] rfl rfl (any_of HT_.out (by kernel_rfl)) (fun _ _ _ h => h) (Or.inl ⟨by rfl, ?_⟩) ?_ ?_
              rotate_left
              ·intro w'
               go_simp
               with_reducible rfl
              rotate_left
              ·simp only [Act.put, List.setIfInBounds_toArray, List.set_cons_zero, List.set_cons_succ, i64_w, i32_w]
               rfl
              refine pure_ (i := 6) (N := some 99) (v := ?_) (a' := ?_) #[false, true, true, true, false, true, true, false, false, false, false] rfl rfl (any_of HT_.out (by kernel_rfl)) (fun _ _ _ h => h) (Or.inl ⟨by rfl, ?_⟩) ?_ ?_
              rotate_left
              ·intro w'
               go_simp
               with_reducible rfl
              rotate_left
              ·simp only [Act.put, List.setIfInBounds_toArray, List.set_cons_zero, List.set_cons_succ, i64_w, i32_w]
               rfl
              refine pure_ (i := 7) (N := some 100) (v := ?_) (a' := ?_) #[false, true, true, true, false, true, true, true, false, false, false] rfl rfl (any_of HT_.out (by kernel_rfl)) (fun _ _ _ h => h) (Or.inl ⟨by rfl, ?_⟩) ?_ ?_
              rotate_left
              ·intro w'
               go_simp
               with_reducible rfl
              rotate_left
              ·simp only [Act.put, List.setIfInBounds_toArray, List.set_cons_zero, List.set_cons_succ, i64_w, i32_w]
               rfl
              refine pure_ (i := 8) (N := some 101) (v := ?_) (a' := ?_) #[false, true, true, true, false, true, true, true, true, false, false] rfl rfl (any_of HT_.out (by kernel_rfl)) (fun _ _ _ h => h) (Or.inl ⟨by rfl, ?_⟩) ?_ ?_
              rotate_left
              ·intro w'
               go_simp
               with_reducible rfl
              rotate_left
              ·simp only [Act.put, List.setIfInBounds_toArray, List.set_cons_zero, List.set_cons_succ, i64_w, i32_w]
               rfl
              refine one_ (i := 0) (N := some 93) #[true, true, true, true, false, true, true, true, true, false, false] rfl rfl (one_of HT_.out (by kernel_rfl)) (by decide) (fun K hK => ?_)
              refine Kd.R_lit_step k42 _ 42 ?hg (N := 93) ?hd (xs := ([] : List (S42))) (inner := []) (ok := fun _ => True) (okp := fun _ => True) ?hr ?hp (fun _ hk => hk) trivial (Below.refl _ _) (Nat.le_refl _) (by simp) ?_; (case hd => rfl); (case hg => rfl); (case hr => first | (go_simp; done) | (go_simp; rfl)); (case hp => exact (Reps.none _ _))
              intro v332 w86 ho87 hb hg_ hnew_
              clear hg_ hnew_
              (first | rw [← Ny331.out] at ho87 | (simp only [Int.reduceToNat] at ho87; rw [← Ny331.out] at ho87))
              have n0_ := Aside0.mk (Kd.R_lower ho87 (below_size (by repeat (first | (with_reducible first | exact HB.out | apply below_alloc | apply pw_below_drewN | apply below_drew1) | exact HB.out))))
              have n1_ := Aside0.mk (below_step (by repeat (first | (with_reducible first | exact HB.out | apply below_alloc | apply pw_below_drewN | apply below_drew1) | exact HB.out)) hb)
              clear HB
              have HO333 := n0_
              have HB := n1_
              clear n0_ n1_
              clear hb ho87
              refine hK.out _ _ trivial (fun hHeld => ?_)
              clear hK K
              refine norm_ (a' := ?_) ?_ ?_
              rotate_left
              ·show Act.put _ (some 93) _ = _
               simp only [Act.put, List.setIfInBounds_toArray, List.set_cons_zero, List.set_cons_succ, i64_w, i32_w]
               rfl
              refine one_ (i := 4) (N := some 97) #[true, true, true, true, true, true, true, true, true, false, false] rfl rfl (one_of HT_.out (by kernel_rfl)) (by decide) (fun K hK => ?_)
              refine Kd.R_append_rows_step k42 (w0 := w) w.heap.size (by rfl) (.tmp 93) (.tmp 96) 22 42 (.agg #[(.int .i64 0), (.int .i64 0), (.int .i64 0), (.int .i64 0)]) 32 rfl Try.underlying22 info42 rfl (by decide) (by omega) v332 y331 y334 _ _ _ (fun _ => True) (fun _ => False) rfl rfl ?aO ?aR (fun _ _ h => h) (fun _ h => h.elim) ?aF ?aB ?aS ?aL ?_
              (case aR => repeat (first | exact (Kd.C_below HR337.out HB.out) | (with_reducible refine Kd.C_alloc ?_ _) | (with_reducible refine Kd.C_drewN ?_ _) | (with_reducible refine Kd.C_drew ?_)))
              (case aB => exact (by repeat (first | (with_reducible first | exact HB.out | apply below_alloc | apply pw_below_drewN | apply below_drew1) | exact HB.out)))
              (case aF => exact (fun _ _ => trivial))
              (case aO => exact (by (with_reducible repeat (first | apply Kd.R_alloc | apply Kd.R_drewN | apply Kd.R_drew)); exact HO333.out))
              (case aS => exact (below_size (by repeat (first | (with_reducible first | exact HB.out | apply below_alloc | apply pw_below_drewN | apply below_drew1) | exact HB.out))))
              (case aL => have := LMc75.out; omega)
              intro v339 w88 ho hb hg hat
              rw [← Ny338.out] at ho
              have n0_ := Aside0.mk (hb)
              have n1_ := Aside0.mk (ho)
              clear HB
              clear HO333
              have HB := n0_
              have HO340 := n1_
              clear n0_ n1_
              clear ho hb hg hat
              refine hK.out _ _ trivial (fun hHeld => ?_)
              clear hK K
              refine norm_ (a' := ?_) ?_ ?_
              rotate_left
              ·show Act.put _ (some 97) _ = _
               simp only [Act.put, List.setIfInBounds_toArray, List.set_cons_zero, List.set_cons_succ, i64_w, i32_w]
               rfl
              refine one_ (i := 9) (N := some 102) #[true, true, true, true, true, true, true, true, true, true, false] rfl rfl (one_of HT_.out (by kernel_rfl)) (by decide) (fun K hK => ?_)
              refine Kd.R_append_rows_step k42 (w0 := w) w.heap.size (by rfl) (.tmp 97) (.tmp 101) 22 42 (.agg #[(.int .i64 0), (.int .i64 0), (.int .i64 0), (.int .i64 0)]) 32 rfl Try.underlying22 info42 rfl (by decide) (by omega) v339 y338 y341 _ _ _ (fun _ => True) (fun _ => False) rfl rfl ?aO ?aR (fun _ _ h => h) (fun _ h => h.elim) ?aF ?aB ?aS ?aL ?_
              (case aR => repeat (first | exact (Kd.C_below HR344.out HB.out) | (with_reducible refine Kd.C_alloc ?_ _) | (with_reducible refine Kd.C_drewN ?_ _) | (with_reducible refine Kd.C_drew ?_)))
              (case aB => exact (by repeat (first | (with_reducible first | exact HB.out | apply below_alloc | apply pw_below_drewN | apply below_drew1) | exact HB.out)))
              (case aF => exact (fun _ _ => trivial))
              (case aO => exact (by (with_reducible repeat (first | apply Kd.R_alloc | apply Kd.R_drewN | apply Kd.R_drew)); exact HO340.out))
              (case aS => exact (below_size (by repeat (first | (with_reducible first | exact HB.out | apply below_alloc | apply pw_below_drewN | apply below_drew1) | exact HB.out))))
              (case aL => have := LMc79.out; omega)
              intro v346 w89 ho hb hg hat
              rw [← Ny345.out] at ho
              have n0_ := Aside0.mk (hb)
              have n1_ := Aside0.mk (ho)
              clear HB
              clear HO340
              have HB := n0_
              have HO347 := n1_
              clear n0_ n1_
              clear ho hb hg hat
              refine hK.out _ _ trivial (fun hHeld => ?_)
              clear hK K
              refine norm_ (a' := ?_) ?_ ?_
              rotate_left
              ·show Act.put _ (some 102) _ = _
               simp only [Act.put, List.setIfInBounds_toArray, List.set_cons_zero, List.set_cons_succ, i64_w, i32_w]
               rfl
              refine pure_ (i := 10) (N := some 15) (v := ?_) (a' := ?_) #[true, true, true, true, true, true, true, true, true, true, true] rfl rfl (any_of HT_.out (by kernel_rfl)) (fun _ _ _ h => h) (Or.inl ⟨by rfl, ?_⟩) ?_ ?_
              rotate_left
              ·intro w'
               go_simp
               with_reducible rfl
              rotate_left
              ·simp only [Act.put, List.setIfInBounds_toArray, List.set_cons_zero, List.set_cons_succ, i64_w, i32_w]
               rfl
              refine done_ (done_of HT_.out (by kernel_rfl)) ?_
              obtain ⟨Ao90, co90, eo90⟩ := Kd.R_slice HO347.out
              subst eo90
              try go_wp2_with (first | ((with_reducible refine gate_callee (f := 13) rfl ?_); refine goesL_ (some 106) rfl rfl Try.func13 (by kernel_rfl) rfl #[.slice Ao90 y345.length co90, .slice A1 l1.length c1, .int .i64 a2] rfl (by (try simp only [List.map_toArray, List.map_cons, List.map_nil]); first | done | rfl | (simp only [List.length_drop, List.length_take]; rfl)) ?_; (with_reducible refine (snowplan_Greatest.calls kj7 _ _ y345 _ _ l1 a2 t348 _ ?side1 ?side2 ?side3 ?side4 A80.out).mono ?_); (case side1 => repeat (first | exact (Kd.R_reads' HO347.out).2.2 | (with_reducible refine Kd.C_alloc ?_ _) | (with_reducible refine Kd.C_drewN ?_ _) | (with_reducible refine Kd.C_drew ?_))); (case side2 => exact (Kd.R_reads' HO347.out).2.1); (case side3 => repeat (first | exact (Kd.C_below HR1.out HB.out) | (with_reducible refine Kd.C_alloc ?_ _) | (with_reducible refine Kd.C_drewN ?_ _) | (with_reducible refine Kd.C_drew ?_))); (case side4 => exact HC1.out); rintro e w91 ⟨rfl, hb⟩; refine ⟨_, rfl, ?_⟩; have n0_ := Aside0.mk (Kd.R_below (by (with_reducible repeat (first | apply Kd.R_alloc | apply Kd.R_drewN | apply Kd.R_drew)); exact HO347.out) hb); have n1_ := Aside0.mk (below_step (by repeat (first | (with_reducible first | exact HB.out | apply below_alloc | apply pw_below_drewN | apply below_drew1) | exact HB.out)) hb); clear HO347; clear HB; have HO347 := n0_; have HB := n1_; clear n0_ n1_; (try clear hb); (try clear hb2); (try clear hk); (try clear hi)))
              go_ret
              exact ⟨by first | rfl | (simp [errW_none, errW_some] <;> rfl) | (simp only [← hji72, ← hji76]; first | rfl | (simp [errW_none, errW_some] <;> rfl)) | (simp [*, errW_none, errW_some] <;> rfl), by repeat (first | (with_reducible first | exact HB.out | apply below_alloc | apply pw_below_drewN | apply below_drew1) | exact HB.out)⟩
             ·rw [if_neg c79] at H
              exact absurd H (by simp)
            ·rw [if_neg c78] at H
             exact absurd H (by simp)
           ·rw [if_neg c77] at H
            exact absurd H (by simp)
          ·rw [if_neg c75] at H
           exact absurd H (by simp)
         ·rw [if_neg c74] at H
          exact absurd H (by simp)
        ·rw [if_neg c73] at H
         exact absurd H (by simp)
 ·replace c7 := Bool.eq_false_iff.mpr c7
  subst c7
  have H1 : (none) = some r := by rw [if_neg (show ¬ (false = true) by decide)] at H; exact H
  clear H
  have H := H1
  clear H1
  exact absurd H (by simp)

end Go.Proofs.Ytefinjjcbpdljaa.PB
