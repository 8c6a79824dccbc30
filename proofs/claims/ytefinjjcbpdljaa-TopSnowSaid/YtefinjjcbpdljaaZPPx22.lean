-- Written by a program of this session over the translation (wip/tools/pprint.py). Not trusted: Lean checks it.
-- halved
import Derived.Test.YtefinjjcbpdljaaZPPxD
import Derived.Test.YtefinjjcbpdljaaZPPx21
namespace Go.Proofs.Ytefinjjcbpdljaa.PB
open Go.RowKit Go.Proofs.YtefinjjcbpdljaaW.PrintWords Go.Proofs.YtefinjjcbpdljaaW.PrintLast Go.Proofs.YtefinjjcbpdljaaW.PrintMore
attribute [local go_sem] max2_int min2_int max_two min_two max_three min_three max_four min_four   -- for this text's walks alone
set_option linter.unusedVariables false
set_option linter.unusedSimpArgs false

theorem assign_rest.mono_l : ∀ k, (∀ y0 y1 y2, LeO (assign_rest.l0 k y0 y1 y2) (assign_rest.l0 (k + 1) y0 y1 y2)) ∧ (∀ y0 y1 y2 y3 y4 y5 y6, LeO (assign_rest.l1 k y0 y1 y2 y3 y4 y5 y6) (assign_rest.l1 (k + 1) y0 y1 y2 y3 y4 y5 y6))
 | 0 => ⟨fun _ _ _ r h => by simp [assign_rest.l0] at h, fun _ _ _ _ _ _ _ r h => by simp [assign_rest.l1] at h⟩
 | k + 1 => by
  obtain ⟨ih0, ih1⟩ := assign_rest.mono_l k
  refine ⟨?_, ?_⟩
  ·intro y0 y1 y2
   unfold assign_rest.l0
   repeat' first
   | (with_reducible exact ih0 _ _ _)
   | (with_reducible exact ih1 _ _ _ _ _ _ _)
   | (with_reducible exact LeO.refl _)
   | (with_reducible exact LeO.none _)
   | (with_reducible refine LeO.ite ?_ ?_)
   | (with_reducible refine LeO.bind ?_ (fun _ => ?_))
   | exact ih0 _ _ _
   | exact ih1 _ _ _ _ _ _ _
   | exact LeO.none _
   | refine LeO.ite ?_ ?_
   | refine LeO.bind ?_ (fun _ => ?_)
  ·intro y0 y1 y2 y3 y4 y5 y6
   unfold assign_rest.l1
   repeat' first
   | (with_reducible exact ih0 _ _ _)
   | (with_reducible exact ih1 _ _ _ _ _ _ _)
   | (with_reducible exact LeO.refl _)
   | (with_reducible exact LeO.none _)
   | (with_reducible refine LeO.ite ?_ ?_)
   | (with_reducible refine LeO.bind ?_ (fun _ => ?_))
   | exact ih0 _ _ _
   | exact ih1 _ _ _ _ _ _ _
   | exact LeO.none _
   | refine LeO.ite ?_ ?_
   | refine LeO.bind ?_ (fun _ => ?_)
theorem assign_rest.mono : ∀ a0 k, LeO (assign_rest.f k a0) (assign_rest.f (k + 1) a0) := by
 intro a0 k
 obtain ⟨ih0, ih1⟩ := assign_rest.mono_l k
 unfold assign_rest.f
 repeat' first
   | (with_reducible exact ih0 _ _ _)
   | (with_reducible exact ih1 _ _ _ _ _ _ _)
   | (with_reducible exact LeO.refl _)
   | (with_reducible exact LeO.none _)
   | (with_reducible refine LeO.ite ?_ ?_)
   | (with_reducible refine LeO.bind ?_ (fun _ => ?_))
   | exact ih0 _ _ _
   | exact ih1 _ _ _ _ _ _ _
   | exact LeO.none _
   | refine LeO.ite ?_ ?_
   | refine LeO.bind ?_ (fun _ => ?_)
set_option maxHeartbeats 8000000 in
set_option maxRecDepth 100000 in
theorem assign_rest.calls (k : Nat) (A0 : Option Addr) (c0 : Nat) (l0 : List (List Int)) (r : List Int) (w : World) (hr0 : Kd.C (Kd.slice 3 (Kd.int .i64)) w A0 l0.length l0) (hc0 : l0.length ≤ c0) (h : assign_rest.f k l0 = some r) :
  Calls Try.prog 40 #[.slice A0 l0.length c0] w fun e w' => ∃ v0_ : Value, e = .returned (v0_) ∧ Kd.R (Kd.int .i64) 3 w' w.heap.size (fun _ => True) v0_ r ∧ Below w.heap.size w w' := by
 have HR0 := Aside0.mk hr0
 have HC0 := Aside0.mk hc0
 clear hr0 hc0
 have HB := Aside0.mk (Below.refl w.heap.size w)
 have H : (if (l0.length : Int) = 0 then (some (([0] : List Int))) else (if 0 < (l0.length : Int) then (if 0 ≤ (shl .i64 1 ((rd_L3 l0 0).length : Int)) then (if (shl .i64 1 ((rd_L3 l0 0).length : Int) : Int).toNat ≤ 35184372088832 then ((some (List.replicate (shl .i64 1 ((rd_L3 l0 0).length : Int) : Int).toNat 0 : List Int)).bind fun y387 => (assign_rest.l0 k l0 y387 (wrap64 ((y387.length : Int) - 1)))) else (none)) else (none)) else (none))) = some r := h
 clear h
 by_cases c2 : (l0.length : Int) = 0
 ·rw [if_pos c2] at H
  have c2b0 : ((l0.length : Int) == 0) = true := beq_iff_eq.mpr c2
  have c2b1 : ((l0.length : Int) != 0) = false := bne_eq_false_iff_eq.mpr c2
  clear c2
  obtain ⟨y383, hy383⟩ : ∃ y_ : List Int, y_ = (([0] : List Int)) := ⟨_, rfl⟩
  replace H : (some y383) = some r := by first | (rw [hy383]; with_reducible exact H) | (have H2_ := (Option.bind_some _ _).symm.trans H; rw [hy383]; with_reducible exact H2_) | (have H2_ := (Option.bind_some _ _).symm.trans H; with_reducible exact H2_) | with_reducible exact H | (rw [hy383]; exact H) | exact H
  have Ny383 := Aside0.mk hy383
  clear hy383
  obtain rfl := Option.some.inj H
  go_enter Try.func40, Try.ntmps40
  go_wp2_with (first | ((with_reducible refine gate_dst (N := 12) rfl ?_); refine Kd.R_lit (Kd.int .i64) _ 3 ?hg (N := 12) ?hd (xs := ([0] : List Int)) (inner := [.int .i64 0]) (ok := fun _ => True) (okp := fun _ => True) ?hr ?hp (fun _ hk => hk) trivial (Below.refl _ _) (Nat.le_refl _) (by simp) ?_; (case hd => rfl); (case hg => rfl); (case hr => first | (go_simp; done) | (go_simp; rfl)); (case hp => exact (Reps.one (show Kd.M (Kd.int .i64) _ _ _ 0 [.int .i64 0] from rfl) (Reps.none _ _))); intro v384 w3 ho4 hb hg_ hnew_; clear hg_ hnew_; (first | rw [← Ny383.out] at ho4 | (simp only [Int.reduceToNat] at ho4; rw [← Ny383.out] at ho4)); have n0_ := Aside0.mk (Kd.R_lower ho4 (below_size (by repeat (first | (with_reducible first | exact HB.out | apply below_alloc | apply pw_below_drewN | apply below_drew1) | exact HB.out)))); have n1_ := Aside0.mk (below_step (by repeat (first | (with_reducible first | exact HB.out | apply below_alloc | apply pw_below_drewN | apply below_drew1) | exact HB.out)) hb); clear HB; have HO385 := n0_; have HB := n1_; clear n0_ n1_; clear hb ho4))
  go_ret
  exact ⟨_, by first | rfl | (simp [errW_none, errW_some] <;> rfl) | (simp [*, errW_none, errW_some] <;> rfl), by (with_reducible repeat (first | apply Kd.R_alloc | apply Kd.R_drewN | apply Kd.R_drew)); exact HO385.out, by repeat (first | (with_reducible first | exact HB.out | apply below_alloc | apply pw_below_drewN | apply below_drew1) | exact HB.out)⟩
 ·rw [if_neg c2] at H
  have c2b0 : ((l0.length : Int) == 0) = false := beq_eq_false_iff_ne.mpr c2
  have c2b1 : ((l0.length : Int) != 0) = true := bne_iff_ne.mpr c2
  have c2b2 : ¬ (l0 = []) := fun h_ => c2 (by rw [h_]; rfl)
  by_cases c5 : 0 < (l0.length : Int)
  ·rw [if_pos c5] at H
   have c5b0 : decide (0 < (l0.length : Int)) = true := decide_eq_true c5
   have c5b1 : decide (0 < l0.length) = true := decide_eq_true (by omega)
   clear c5
   obtain ⟨ji6, hji6⟩ : ∃ j_ : Int, (shl .i64 1 ((rd_L3 l0 0).length : Int)) = j_ := ⟨_, rfl⟩
   replace H : (if 0 ≤ (ji6) then (if (ji6 : Int).toNat ≤ 35184372088832 then ((some (List.replicate (ji6 : Int).toNat 0 : List Int)).bind fun y387 => (assign_rest.l0 k l0 y387 (wrap64 ((y387.length : Int) - 1)))) else (none)) else (none)) = some r := by first | (rw [hji6] at H; exact H) | (simp only [hji6] at H ⊢; exact H)
   have hji6_ : (IntKind.i64.wrap (1 * 2 ^ min ((rd_L3 l0 0).length : Int).toNat 64)) = ji6 := hji6
   have hji6z : ((rd_L3 l0 0).length : Int) ≤ 64 → (IntKind.i64.wrap (1 * 2 ^ ((rd_L3 l0 0).length : Int).toNat)) = ji6 := shl_small hji6
   have hji6p : (IntKind.i64.wrap (1 * 2 ^ min (rd_L3 l0 0).length 64)) = ji6 := hji6_
   have hji6q : ((rd_L3 l0 0).length : Int) ≤ 64 → (IntKind.i64.wrap (1 * 2 ^ (rd_L3 l0 0).length)) = ji6 := hji6z
   have hji6r : (IntKind.i64.wrap (2 ^ min (rd_L3 l0 0).length 64)) = ji6 := by have h_ := hji6p; rw [Int.one_mul] at h_; exact h_
   have hji6s : ((rd_L3 l0 0).length : Int) ≤ 64 → (IntKind.i64.wrap (2 ^ (rd_L3 l0 0).length)) = ji6 := fun hle_ => by have h_ := hji6q hle_; rw [Int.one_mul] at h_; exact h_
   have hji6u : (IntKind.i64.wrap (2 ^ min ((rd_L3 l0 0).length : Int).toNat 64)) = ji6 := by have h_ := hji6_; rw [Int.one_mul] at h_; exact h_
   have hji6v : ((rd_L3 l0 0).length : Int) ≤ 64 → (IntKind.i64.wrap (2 ^ ((rd_L3 l0 0).length : Int).toNat)) = ji6 := fun hle_ => by have h_ := hji6z hle_; rw [Int.one_mul] at h_; exact h_
   have hji6y : (wrap64 (1 * 2 ^ min ((rd_L3 l0 0).length : Int).toNat 64)) = ji6 := (i64_w _).symm.trans hji6_
   have hji6x : ((rd_L3 l0 0).length : Int) ≤ 64 → (wrap64 (1 * 2 ^ ((rd_L3 l0 0).length : Int).toNat)) = ji6 := fun h_ => (i64_w _).symm.trans (hji6z h_)
   by_cases c7 : 0 ≤ (ji6)
   ·rw [if_pos c7] at H
    have c7b0 := eq_true c7
    have c7b1 : decide (0 ≤ (ji6)) = true := decide_eq_true c7
    clear c7
    by_cases c8 : (ji6 : Int).toNat ≤ 35184372088832
    ·rw [if_pos c8] at H
     have c8b0 := eq_true c8
     have c8b1 : decide ((ji6 : Int).toNat ≤ 35184372088832) = true := decide_eq_true c8
     clear c8
     obtain ⟨y387, hy387⟩ : ∃ y_ : List Int, y_ = (List.replicate (ji6 : Int).toNat 0) := ⟨_, rfl⟩
     replace H : (assign_rest.l0 k l0 y387 (wrap64 ((y387.length : Int) - 1))) = some r := by first | (rw [hy387]; with_reducible exact H) | (have H2_ := (Option.bind_some _ _).symm.trans H; rw [hy387]; with_reducible exact H2_) | (have H2_ := (Option.bind_some _ _).symm.trans H; with_reducible exact H2_) | with_reducible exact H | (rw [hy387]; exact H) | exact H
     have Ny387 := Aside0.mk hy387
     clear hy387
     have H' := Aside0.mk H
     clear H
     have p386 : 0 ≤ (0 : Int) := (by omega)
     have q386 : 0 < (l0.length : Int) := of_decide_eq_true (by first | (with_reducible assumption) | assumption)
     obtain ⟨ad386, A386_0, c386_0, e386, hx386_0, hl386_0, hi386_0⟩ := at_L3 HR0.out 0 p386 q386
     cases e386
     have qi386 : (0 < l0.length) = True := eq_true (by omega)
     (try rw [show ((0 : Int)).toNat = 0 from rfl] at hx386_0)
     (try rw [Addr.add_zero'] at hx386_0)
     have HR386_0 := Aside0.mk hi386_0
     have HC386_0 := Aside0.mk hl386_0
     clear hi386_0 hl386_0
     replace p386 := eq_true p386
     replace q386 := eq_true q386
     go_enter Try.func40, Try.ntmps40
     go_wp2_with (first | ((with_reducible refine gate_dst (N := 18) rfl ?_); refine Kd.R_make (Kd.int .i64) _ 3 rfl (N := 18) rfl 28 _ _ rfl ji6 rfl rfl Try.underlying28 (.int .i64 0) 8 info3 rfl (by decide) (by omega) 0 (ok := fun _ => True) (okp := fun _ => True) rfl (fun _ hk => hk) trivial (of_decide_eq_true (by first | (with_reducible assumption) | assumption)) (Nat.le_trans (Nat.mul_le_mul_right _ (of_decide_eq_true (by first | (with_reducible assumption) | assumption) : ji6.toNat ≤ 35184372088832)) (by omega)) (Below.refl _ _) (Nat.le_refl _) ?_; intro v388 w9 ho10 hb hg_ hnew_; clear hg_ hnew_; (first | rw [← Ny387.out] at ho10 | (simp only [Int.reduceToNat] at ho10; rw [← Ny387.out] at ho10)); have n0_ := Aside0.mk (Kd.R_lower ho10 (below_size (by repeat (first | (with_reducible first | exact HB.out | apply below_alloc | apply pw_below_drewN | apply below_drew1) | exact HB.out)))); have n1_ := Aside0.mk (below_step (by repeat (first | (with_reducible first | exact HB.out | apply below_alloc | apply pw_below_drewN | apply below_drew1) | exact HB.out)) hb); clear HB; have HO389 := n0_; have HB := n1_; clear n0_ n1_; clear hb ho10; obtain ⟨Ao11, co11, eo11⟩ := Kd.R_slice HO389.out; subst eo11))
     go_loopg [4] k (fun kq v4 w' => ∃ (x3_1 : List Int) (x4_1 : Int), v4 = .int .i64 x4_1 ∧ Aside0 (assign_rest.l0 kq l0 x3_1 x4_1 = some r) ∧ Aside0 (kq ≤ k) ∧ Aside0 (Kd.R (Kd.int .i64) 3 w' w.heap.size (fun _ => True) (.slice Ao11 y387.length co11) x3_1) ∧ Aside0 (Below w.heap.size w w'))
     case atStart => exact ⟨(y387), (wrap64 ((y387.length : Int) - 1)), (by first | rfl | (simp; done) | (simp [*]; done)), H', ⟨Nat.le_refl _⟩, ⟨by (with_reducible repeat (first | apply Kd.R_alloc | apply Kd.R_drewN | apply Kd.R_drew)); exact HO389.out⟩, ⟨by repeat (first | (with_reducible first | exact HB.out | apply below_alloc | apply pw_below_drewN | apply below_drew1) | exact HB.out)⟩⟩
     case round =>
      clear H'
      try clear c2
      try clear c2b0
      try clear c2b1
      try clear c2b2
      try clear p2
      try clear c3
      try clear p3
      try clear q3
      try clear hx3
      try clear qi3
      try clear c4
      try clear c5
      try clear c5b0
      try clear c5b1
      try clear p6
      try clear c7
      try clear c7b0
      try clear c7b1
      try clear c8
      try clear c8b0
      try clear c8b1
      try clear hx386_0
      try clear p386
      try clear q386
      obtain ⟨x3_1, x4_1, rfl, HA, HK1, HO_3, HB⟩ := hrel
      have hl3_1 := (Kd.R_reads' HO_3.out).1
      rw [hl3_1] at HO_3
      (try simp only [hl3_1])
      cases gk with
      | zero => exact absurd HA.out (by simp [assign_rest.l0])
      | succ k1 =>
       have H := HA.out
       clear HA
       simp only [assign_rest.l0] at H
       by_cases c12 : x4_1 ≥ 0
       ·rw [if_pos c12] at H
        have c12b0 : decide (0 ≤ x4_1) = true := decide_eq_true c12
        clear c12
        replace H := Option.bind_eq_some_iff.mp H
        obtain ⟨t390, A130, H⟩ := H
        replace H : (if t390 ≥ (l0.length : Int) then (assign_rest.l0 k1 l0 x3_1 (wrap64 (x4_1 - 1))) else (if 0 ≤ t390 then (if t390 < (l0.length : Int) then (assign_rest.l1 k1 l0 x3_1 x4_1 (-1) (rd_L3 l0 t390) ((rd_L3 l0 t390).length : Int) 0) else (none)) else (none))) = some r := H
        have A13 := Aside0.mk A130
        clear A130
        by_cases c14 : t390 ≥ (l0.length : Int)
        ·rw [if_pos c14] at H
         have c14b0 : decide ((l0.length : Int) ≤ t390) = true := decide_eq_true c14
         clear c14
         have H' := Aside0.mk H
         clear H
         go_wp2_with (first | ((with_reducible refine gate_callee (f := 50) rfl ?_); refine goesL_ (some 28) rfl rfl Try.func50 (by kernel_rfl) rfl #[.int .u64 (IntKind.u64.wrap (x4_1))] rfl (by (try simp only [List.map_toArray, List.map_cons, List.map_nil]); first | done | rfl | (simp only [List.length_drop, List.length_take]; rfl)) ?_; (with_reducible refine (bits_OnesCount.calls (IntKind.u64.wrap (x4_1)) t390 _ A13.out).mono ?_); rintro e w' ⟨rfl, ⟨nd, rfl⟩⟩; refine ⟨_, rfl, ?_⟩))
         (try simp only [← hl3_1])
         go_roundg k1
         case measure => have := HK1.out; omega
         case rel => exact ⟨(x3_1), (wrap64 (x4_1 - 1)), (by first | rfl | (simp; done) | (simp [*]; done)), H', ⟨by have := HK1.out; omega⟩, ⟨by (try simp only [hl3_1]); (with_reducible repeat (first | apply Kd.R_alloc | apply Kd.R_drewN | apply Kd.R_drew)); exact HO_3.out⟩, ⟨by repeat (first | (with_reducible first | exact HB.out | apply below_alloc | apply pw_below_drewN | apply below_drew1) | exact HB.out)⟩⟩
        ·rw [if_neg c14] at H
         have c14b0 : decide ((l0.length : Int) ≤ t390) = false := decide_eq_false c14
         clear c14
         by_cases c15 : 0 ≤ t390
         ·rw [if_pos c15] at H
          have c15b0 : decide (0 ≤ t390) = true := decide_eq_true c15
          clear c15
          by_cases c16 : t390 < (l0.length : Int)
          ·rw [if_pos c16] at H
           have c16b0 : decide (t390 < (l0.length : Int)) = true := decide_eq_true c16
           clear c16
           have H' := Aside0.mk H
           clear H
           go_wp2_with (first | ((with_reducible refine gate_callee (f := 50) rfl ?_); refine goesL_ (some 28) rfl rfl Try.func50 (by kernel_rfl) rfl #[.int .u64 (IntKind.u64.wrap (x4_1))] rfl (by (try simp only [List.map_toArray, List.map_cons, List.map_nil]); first | done | rfl | (simp only [List.length_drop, List.length_take]; rfl)) ?_; (with_reducible refine (bits_OnesCount.calls (IntKind.u64.wrap (x4_1)) t390 _ A13.out).mono ?_); rintro e w' ⟨rfl, ⟨nd, rfl⟩⟩; refine ⟨_, rfl, ?_⟩; have p391 : 0 ≤ (t390 : Int) := of_decide_eq_true (by first | (with_reducible assumption) | assumption); have q391 : t390 < (l0.length : Int) := of_decide_eq_true (by first | (with_reducible assumption) | assumption); obtain ⟨ad391, A391_0, c391_0, e391, hx391_0, hl391_0, hi391_0⟩ := at_L3 HR0.out t390 p391 q391; obtain rfl : ad386 = ad391 := (by injection e391); replace hx391_0 := (HB.out.cell (World.block_lt_of_cell? w _ hx391_0)).trans hx391_0; have HR391_0 := Aside0.mk hi391_0; have HC391_0 := Aside0.mk hl391_0; clear hi391_0 hl391_0; replace p391 := eq_true p391; replace q391 := eq_true q391))
           go_loopg [6, 38] k1 (fun kq v6 v38 w' => ∃ (x6_2 : Int) (x38_2 : Int), v6 = .int .i64 x6_2 ∧ v38 = .int .i64 x38_2 ∧ Aside0 (assign_rest.l1 kq l0 x3_1 x4_1 x6_2 (rd_L3 l0 t390) ((rd_L3 l0 t390).length : Int) x38_2 = some r) ∧ Aside0 (kq ≤ k1) ∧ Aside0 (Kd.R (Kd.int .i64) 3 w' w.heap.size (fun _ => True) (.slice Ao11 x3_1.length co11) x3_1) ∧ Aside0 (Below w.heap.size w w'))
           case atStart => exact ⟨((-1)), (0), (by first | rfl | (simp; done) | (simp [*]; done)), (by first | rfl | (simp; done) | (simp [*]; done)), H', ⟨Nat.le_refl _⟩, ⟨by (try simp only [hl3_1]); (with_reducible repeat (first | apply Kd.R_alloc | apply Kd.R_drewN | apply Kd.R_drew)); exact HO_3.out⟩, ⟨by repeat (first | (with_reducible first | exact HB.out | apply below_alloc | apply pw_below_drewN | apply below_drew1) | exact HB.out)⟩⟩
           case round =>
            clear H'
            try clear c1
            try clear c2
            try clear c2b0
            try clear c2b1
            try clear c2b2
            try clear p2
            try clear c3
            try clear p3
            try clear q3
            try clear hx3
            try clear qi3
            try clear c4
            try clear c5
            try clear c5b0
            try clear c5b1
            try clear p6
            try clear c7
            try clear c7b0
            try clear c7b1
            try clear c8
            try clear c8b0
            try clear c8b1
            try clear c12
            try clear c12b0
            try clear c14
            try clear c14b0
            try clear c15
            try clear c15b0
            try clear c16
            try clear c16b0
            try clear hx386_0
            try clear hx391_0
            try clear p2
            try clear p3
            try clear p386
            try clear p391
            try clear p6
            try clear q3
            try clear q386
            try clear q391
            obtain ⟨x6_2, x38_2, rfl, rfl, HA, HK2, HO_3, HB⟩ := hrel
            cases gk with
            | zero => exact absurd HA.out (by simp [assign_rest.l1])
            | succ k2 =>
             have H := HA.out
             clear HA
             simp only [assign_rest.l1] at H
             by_cases c17 : x38_2 < ((rd_L3 l0 t390).length : Int)
             ·rw [if_pos c17] at H
              have c17b0 : decide (x38_2 < ((rd_L3 l0 t390).length : Int)) = true := decide_eq_true c17
              clear c17
              by_cases c18 : 0 ≤ x38_2
              ·rw [if_pos c18] at H
               have c18b0 : decide (0 ≤ x38_2) = true := decide_eq_true c18
               clear c18
               by_cases c19 : x38_2 < ((rd_L3 l0 t390).length : Int)
               ·rw [if_pos c19] at H
                have c19b0 : decide (x38_2 < ((rd_L3 l0 t390).length : Int)) = true := decide_eq_true c19
                clear c19
                have c20b0 := eq_true (of_decide_eq_true (by first | (with_reducible assumption) | assumption) : 0 ≤ x38_2)
                obtain ⟨ji21, hji21⟩ : ∃ j_ : Int, (shr .i64 x4_1 x38_2) = j_ := ⟨_, rfl⟩
                replace H : (if (Go.bits .and .i64 (ji21) 1) = 0 then (if x6_2 < 0 then (if 0 ≤ (Go.bits .or .i64 x4_1 (shl .i64 1 x38_2)) then (if (Go.bits .or .i64 x4_1 (shl .i64 1 x38_2)) < (x3_1.length : Int) then (assign_rest.l1 k2 l0 x3_1 x4_1 (wrap64 ((rd (rd_L3 l0 t390) x38_2) + (rd x3_1 (Go.bits .or .i64 x4_1 (shl .i64 1 x38_2))))) (rd_L3 l0 t390) ((rd_L3 l0 t390).length : Int) (wrap64 (x38_2 + 1))) else (none)) else (none)) else (if 0 ≤ (Go.bits .or .i64 x4_1 (shl .i64 1 x38_2)) then (if (Go.bits .or .i64 x4_1 (shl .i64 1 x38_2)) < (x3_1.length : Int) then (if (wrap64 ((rd (rd_L3 l0 t390) x38_2) + (rd x3_1 (Go.bits .or .i64 x4_1 (shl .i64 1 x38_2))))) < x6_2 then (assign_rest.l1 k2 l0 x3_1 x4_1 (wrap64 ((rd (rd_L3 l0 t390) x38_2) + (rd x3_1 (Go.bits .or .i64 x4_1 (shl .i64 1 x38_2))))) (rd_L3 l0 t390) ((rd_L3 l0 t390).length : Int) (wrap64 (x38_2 + 1))) else (assign_rest.l1 k2 l0 x3_1 x4_1 x6_2 (rd_L3 l0 t390) ((rd_L3 l0 t390).length : Int) (wrap64 (x38_2 + 1)))) else (none)) else (none))) else (assign_rest.l1 k2 l0 x3_1 x4_1 x6_2 (rd_L3 l0 t390) ((rd_L3 l0 t390).length : Int) (wrap64 (x38_2 + 1)))) = some r := by first | (rw [hji21] at H; exact H) | (simp only [hji21] at H ⊢; exact H)
                have hji21_ : (x4_1 / 2 ^ min x38_2.toNat 64) = ji21 := hji21
                have hji21z : x38_2 ≤ 64 → (x4_1 / 2 ^ x38_2.toNat) = ji21 := shr_small hji21
                by_cases c22 : (Go.bits .and .i64 (ji21) 1) = 0
                ·rw [if_pos c22] at H
                 have c22b0 : ((Go.bits .and .i64 (ji21) 1) == 0) = true := beq_iff_eq.mpr c22
                 have c22b1 : ((Go.bits .and .i64 (ji21) 1) != 0) = false := bne_eq_false_iff_eq.mpr c22
                 clear c22
                 by_cases c23 : x6_2 < 0
                 ·rw [if_pos c23] at H
                  have c23b0 : decide (x6_2 < 0) = true := decide_eq_true c23
                  clear c23
                  have c24b0 := eq_true (of_decide_eq_true (by first | (with_reducible assumption) | assumption) : 0 ≤ x38_2)
                  obtain ⟨ji25, hji25⟩ : ∃ j_ : Int, (shl .i64 1 x38_2) = j_ := ⟨_, rfl⟩
                  replace H : (if 0 ≤ (Go.bits .or .i64 x4_1 (ji25)) then (if (Go.bits .or .i64 x4_1 (ji25)) < (x3_1.length : Int) then (assign_rest.l1 k2 l0 x3_1 x4_1 (wrap64 ((rd (rd_L3 l0 t390) x38_2) + (rd x3_1 (Go.bits .or .i64 x4_1 (ji25))))) (rd_L3 l0 t390) ((rd_L3 l0 t390).length : Int) (wrap64 (x38_2 + 1))) else (none)) else (none)) = some r := by first | (rw [hji25] at H; exact H) | (simp only [hji25] at H ⊢; exact H)
                  have hji25_ : (IntKind.i64.wrap (1 * 2 ^ min x38_2.toNat 64)) = ji25 := hji25
                  have hji25z : x38_2 ≤ 64 → (IntKind.i64.wrap (1 * 2 ^ x38_2.toNat)) = ji25 := shl_small hji25
                  have hji25u : (IntKind.i64.wrap (2 ^ min x38_2.toNat 64)) = ji25 := by have h_ := hji25_; rw [Int.one_mul] at h_; exact h_
                  have hji25v : x38_2 ≤ 64 → (IntKind.i64.wrap (2 ^ x38_2.toNat)) = ji25 := fun hle_ => by have h_ := hji25z hle_; rw [Int.one_mul] at h_; exact h_
                  have hji25y : (wrap64 (1 * 2 ^ min x38_2.toNat 64)) = ji25 := (i64_w _).symm.trans hji25_
                  have hji25x : x38_2 ≤ 64 → (wrap64 (1 * 2 ^ x38_2.toNat)) = ji25 := fun h_ => (i64_w _).symm.trans (hji25z h_)
                  by_cases c26 : 0 ≤ (Go.bits .or .i64 x4_1 (ji25))
                  ·rw [if_pos c26] at H
                   have c26b0 : decide (0 ≤ (Go.bits .or .i64 x4_1 (ji25))) = true := decide_eq_true c26
                   clear c26
                   by_cases c27 : (Go.bits .or .i64 x4_1 (ji25)) < (x3_1.length : Int)
                   ·rw [if_pos c27] at H
                    have c27b0 : decide ((Go.bits .or .i64 x4_1 (ji25)) < (x3_1.length : Int)) = true := decide_eq_true c27
                    clear c27
                    have H' := Aside0.mk H
                    clear H
                    have p392 : 0 ≤ (x38_2 : Int) := of_decide_eq_true (by first | (with_reducible assumption) | assumption)
                    have q392 : x38_2 < ((rd_L3 l0 t390).length : Int) := of_decide_eq_true (by first | (with_reducible assumption) | assumption)
                    obtain ⟨ad392, e392, hx392_0⟩ := Kd.at_int HR391_0.out x38_2 p392 q392
                    cases e392
                    replace hx392_0 := (HB.out.cell (World.block_lt_of_cell? w _ hx392_0)).trans hx392_0
                    replace p392 := eq_true p392
                    replace q392 := eq_true q392
                    have p393 : 0 ≤ ((Go.bits .or .i64 x4_1 (ji25)) : Int) := of_decide_eq_true (by first | (with_reducible assumption) | assumption)
                    have q393 : (Go.bits .or .i64 x4_1 (ji25)) < (x3_1.length : Int) := of_decide_eq_true (by first | (with_reducible assumption) | assumption)
                    obtain ⟨ad393, e393, hx393_0⟩ := Kd.at_int (Kd.R_reads' HO_3.out).2.2 (Go.bits .or .i64 x4_1 (ji25)) p393 q393
                    cases e393
                    replace p393 := eq_true p393
                    replace q393 := eq_true q393
                    go_wp2
                    go_roundg k2
                    case measure => have := HK1.out; have := HK2.out; omega
                    case rel => exact ⟨(wrap64 ((rd (rd_L3 l0 t390) x38_2) + (rd x3_1 (Go.bits .or .i64 x4_1 (ji25))))), (wrap64 (x38_2 + 1)), (by first | rfl | (simp; done) | (simp only [← hji25] <;> (first | rfl | simp)) | (simp [*]; done)), (by first | rfl | (simp; done) | (simp [*]; done)), H', ⟨by have := HK1.out; have := HK2.out; omega⟩, ⟨by (try simp only [hl3_1]); (with_reducible repeat (first | apply Kd.R_alloc | apply Kd.R_drewN | apply Kd.R_drew)); exact HO_3.out⟩, ⟨by repeat (first | (with_reducible first | exact HB.out | apply below_alloc | apply pw_below_drewN | apply below_drew1) | exact HB.out)⟩⟩
                   ·rw [if_neg c27] at H
                    exact absurd H (by simp)
                  ·rw [if_neg c26] at H
                   exact absurd H (by simp)
                 ·rw [if_neg c23] at H
                  have c23b0 : decide (x6_2 < 0) = false := decide_eq_false c23
                  clear c23
                  have c28b0 := eq_true (of_decide_eq_true (by first | (with_reducible assumption) | assumption) : 0 ≤ x38_2)
                  obtain ⟨ji29, hji29⟩ : ∃ j_ : Int, (shl .i64 1 x38_2) = j_ := ⟨_, rfl⟩
                  replace H : (if 0 ≤ (Go.bits .or .i64 x4_1 (ji29)) then (if (Go.bits .or .i64 x4_1 (ji29)) < (x3_1.length : Int) then (if (wrap64 ((rd (rd_L3 l0 t390) x38_2) + (rd x3_1 (Go.bits .or .i64 x4_1 (ji29))))) < x6_2 then (assign_rest.l1 k2 l0 x3_1 x4_1 (wrap64 ((rd (rd_L3 l0 t390) x38_2) + (rd x3_1 (Go.bits .or .i64 x4_1 (ji29))))) (rd_L3 l0 t390) ((rd_L3 l0 t390).length : Int) (wrap64 (x38_2 + 1))) else (assign_rest.l1 k2 l0 x3_1 x4_1 x6_2 (rd_L3 l0 t390) ((rd_L3 l0 t390).length : Int) (wrap64 (x38_2 + 1)))) else (none)) else (none)) = some r := by first | (rw [hji29] at H; exact H) | (simp only [hji29] at H ⊢; exact H)
                  have hji29_ : (IntKind.i64.wrap (1 * 2 ^ min x38_2.toNat 64)) = ji29 := hji29
                  have hji29z : x38_2 ≤ 64 → (IntKind.i64.wrap (1 * 2 ^ x38_2.toNat)) = ji29 := shl_small hji29
                  have hji29u : (IntKind.i64.wrap (2 ^ min x38_2.toNat 64)) = ji29 := by have h_ := hji29_; rw [Int.one_mul] at h_; exact h_
                  have hji29v : x38_2 ≤ 64 → (IntKind.i64.wrap (2 ^ x38_2.toNat)) = ji29 := fun hle_ => by have h_ := hji29z hle_; rw [Int.one_mul] at h_; exact h_
                  have hji29y : (wrap64 (1 * 2 ^ min x38_2.toNat 64)) = ji29 := (i64_w _).symm.trans hji29_
                  have hji29x : x38_2 ≤ 64 → (wrap64 (1 * 2 ^ x38_2.toNat)) = ji29 := fun h_ => (i64_w _).symm.trans (hji29z h_)
                  by_cases c30 : 0 ≤ (Go.bits .or .i64 x4_1 (ji29))
                  ·rw [if_pos c30] at H
                   have c30b0 : decide (0 ≤ (Go.bits .or .i64 x4_1 (ji29))) = true := decide_eq_true c30
                   clear c30
                   by_cases c31 : (Go.bits .or .i64 x4_1 (ji29)) < (x3_1.length : Int)
                   ·rw [if_pos c31] at H
                    have c31b0 : decide ((Go.bits .or .i64 x4_1 (ji29)) < (x3_1.length : Int)) = true := decide_eq_true c31
                    clear c31
                    by_cases c32 : (wrap64 ((rd (rd_L3 l0 t390) x38_2) + (rd x3_1 (Go.bits .or .i64 x4_1 (ji29))))) < x6_2
                    ·rw [if_pos c32] at H
                     have c32b0 : decide ((wrap64 ((rd (rd_L3 l0 t390) x38_2) + (rd x3_1 (Go.bits .or .i64 x4_1 (ji29))))) < x6_2) = true := decide_eq_true c32
                     clear c32
                     have c33b0 := eq_true (of_decide_eq_true (by first | (with_reducible assumption) | assumption) : 0 ≤ x38_2)
                     have H' := Aside0.mk H
                     clear H
                     have p392 : 0 ≤ (x38_2 : Int) := of_decide_eq_true (by first | (with_reducible assumption) | assumption)
                     have q392 : x38_2 < ((rd_L3 l0 t390).length : Int) := of_decide_eq_true (by first | (with_reducible assumption) | assumption)
                     obtain ⟨ad392, e392, hx392_0⟩ := Kd.at_int HR391_0.out x38_2 p392 q392
                     cases e392
                     replace hx392_0 := (HB.out.cell (World.block_lt_of_cell? w _ hx392_0)).trans hx392_0
                     replace p392 := eq_true p392
                     replace q392 := eq_true q392
                     have p394 : 0 ≤ ((Go.bits .or .i64 x4_1 (ji29)) : Int) := of_decide_eq_true (by first | (with_reducible assumption) | assumption)
                     have q394 : (Go.bits .or .i64 x4_1 (ji29)) < (x3_1.length : Int) := of_decide_eq_true (by first | (with_reducible assumption) | assumption)
                     obtain ⟨ad394, e394, hx394_0⟩ := Kd.at_int (Kd.R_reads' HO_3.out).2.2 (Go.bits .or .i64 x4_1 (ji29)) p394 q394
                     cases e394
                     replace p394 := eq_true p394
                     replace q394 := eq_true q394
                     have p395 : 0 ≤ ((Go.bits .or .i64 x4_1 (ji29)) : Int) := of_decide_eq_true (by first | (with_reducible assumption) | assumption)
                     have q395 : (Go.bits .or .i64 x4_1 (ji29)) < (x3_1.length : Int) := of_decide_eq_true (by first | (with_reducible assumption) | assumption)
                     obtain ⟨ad395, e395, hx395_0⟩ := Kd.at_int (Kd.R_reads' HO_3.out).2.2 (Go.bits .or .i64 x4_1 (ji29)) p395 q395
                     obtain rfl : ad394 = ad395 := (by injection e395)
                     replace p395 := eq_true p395
                     replace q395 := eq_true q395
                     go_wp2
                     go_roundg k2
                     case measure => have := HK1.out; have := HK2.out; omega
                     case rel => exact ⟨(wrap64 ((rd (rd_L3 l0 t390) x38_2) + (rd x3_1 (Go.bits .or .i64 x4_1 (ji29))))), (wrap64 (x38_2 + 1)), (by first | rfl | (simp; done) | (simp only [← hji29] <;> (first | rfl | simp)) | (simp [*]; done)), (by first | rfl | (simp; done) | (simp [*]; done)), H', ⟨by have := HK1.out; have := HK2.out; omega⟩, ⟨by (try simp only [hl3_1]); (with_reducible repeat (first | apply Kd.R_alloc | apply Kd.R_drewN | apply Kd.R_drew)); exact HO_3.out⟩, ⟨by repeat (first | (with_reducible first | exact HB.out | apply below_alloc | apply pw_below_drewN | apply below_drew1) | exact HB.out)⟩⟩
                    ·rw [if_neg c32] at H
                     have c32b0 : decide ((wrap64 ((rd (rd_L3 l0 t390) x38_2) + (rd x3_1 (Go.bits .or .i64 x4_1 (ji29))))) < x6_2) = false := decide_eq_false c32
                     clear c32
                     have H' := Aside0.mk H
                     clear H
                     have p392 : 0 ≤ (x38_2 : Int) := of_decide_eq_true (by first | (with_reducible assumption) | assumption)
                     have q392 : x38_2 < ((rd_L3 l0 t390).length : Int) := of_decide_eq_true (by first | (with_reducible assumption) | assumption)
                     obtain ⟨ad392, e392, hx392_0⟩ := Kd.at_int HR391_0.out x38_2 p392 q392
                     cases e392
                     replace hx392_0 := (HB.out.cell (World.block_lt_of_cell? w _ hx392_0)).trans hx392_0
                     replace p392 := eq_true p392
                     replace q392 := eq_true q392
                     have p394 : 0 ≤ ((Go.bits .or .i64 x4_1 (ji29)) : Int) := of_decide_eq_true (by first | (with_reducible assumption) | assumption)
                     have q394 : (Go.bits .or .i64 x4_1 (ji29)) < (x3_1.length : Int) := of_decide_eq_true (by first | (with_reducible assumption) | assumption)
                     obtain ⟨ad394, e394, hx394_0⟩ := Kd.at_int (Kd.R_reads' HO_3.out).2.2 (Go.bits .or .i64 x4_1 (ji29)) p394 q394
                     cases e394
                     replace p394 := eq_true p394
                     replace q394 := eq_true q394
                     go_wp2
                     go_roundg k2
                     case measure => have := HK1.out; have := HK2.out; omega
                     case rel => exact ⟨(x6_2), (wrap64 (x38_2 + 1)), (by first | rfl | (simp; done) | (simp [*]; done)), (by first | rfl | (simp; done) | (simp [*]; done)), H', ⟨by have := HK1.out; have := HK2.out; omega⟩, ⟨by (try simp only [hl3_1]); (with_reducible repeat (first | apply Kd.R_alloc | apply Kd.R_drewN | apply Kd.R_drew)); exact HO_3.out⟩, ⟨by repeat (first | (with_reducible first | exact HB.out | apply below_alloc | apply pw_below_drewN | apply below_drew1) | exact HB.out)⟩⟩
                   ·rw [if_neg c31] at H
                    exact absurd H (by simp)
                  ·rw [if_neg c30] at H
                   exact absurd H (by simp)
                ·rw [if_neg c22] at H
                 have c22b0 : ((Go.bits .and .i64 (ji21) 1) == 0) = false := beq_eq_false_iff_ne.mpr c22
                 have c22b1 : ((Go.bits .and .i64 (ji21) 1) != 0) = true := bne_iff_ne.mpr c22
                 have H' := Aside0.mk H
                 clear H
                 have p392 : 0 ≤ (x38_2 : Int) := of_decide_eq_true (by first | (with_reducible assumption) | assumption)
                 have q392 : x38_2 < ((rd_L3 l0 t390).length : Int) := of_decide_eq_true (by first | (with_reducible assumption) | assumption)
                 obtain ⟨ad392, e392, hx392_0⟩ := Kd.at_int HR391_0.out x38_2 p392 q392
                 cases e392
                 replace hx392_0 := (HB.out.cell (World.block_lt_of_cell? w _ hx392_0)).trans hx392_0
                 replace p392 := eq_true p392
                 replace q392 := eq_true q392
                 go_wp2
                 go_roundg k2
                 case measure => have := HK1.out; have := HK2.out; omega
                 case rel => exact ⟨(x6_2), (wrap64 (x38_2 + 1)), (by first | rfl | (simp; done) | (simp [*]; done)), (by first | rfl | (simp; done) | (simp [*]; done)), H', ⟨by have := HK1.out; have := HK2.out; omega⟩, ⟨by (try simp only [hl3_1]); (with_reducible repeat (first | apply Kd.R_alloc | apply Kd.R_drewN | apply Kd.R_drew)); exact HO_3.out⟩, ⟨by repeat (first | (with_reducible first | exact HB.out | apply below_alloc | apply pw_below_drewN | apply below_drew1) | exact HB.out)⟩⟩
               ·rw [if_neg c19] at H
                exact absurd H (by simp)
              ·rw [if_neg c18] at H
               exact absurd H (by simp)
             ·rw [if_neg c17] at H
              have c17b0 : decide (x38_2 < ((rd_L3 l0 t390).length : Int)) = false := decide_eq_false c17
              clear c17
              by_cases c34 : 0 ≤ x4_1
              ·rw [if_pos c34] at H
               have c34b0 : decide (0 ≤ x4_1) = true := decide_eq_true c34
               clear c34
               by_cases c35 : x4_1 < (x3_1.length : Int)
               ·rw [if_pos c35] at H
                have c35b0 : decide (x4_1 < (x3_1.length : Int)) = true := decide_eq_true c35
                clear c35
                obtain ⟨y396, hy396⟩ : ∃ y_ : List Int, y_ = (x3_1.set (x4_1 : Int).toNat x6_2) := ⟨_, rfl⟩
                replace H : (assign_rest.l0 k2 l0 y396 (wrap64 (x4_1 - 1))) = some r := by first | (rw [hy396]; with_reducible exact H) | (have H2_ := (Option.bind_some _ _).symm.trans H; rw [hy396]; with_reducible exact H2_) | (have H2_ := (Option.bind_some _ _).symm.trans H; with_reducible exact H2_) | with_reducible exact H | (rw [hy396]; exact H) | exact H
                have Ny396 := Aside0.mk hy396
                clear hy396
                have H' := Aside0.mk H
                clear H
                have p36 : 0 ≤ (x4_1 : Int) := of_decide_eq_true (by first | (with_reducible assumption) | assumption)
                have q36 : (x4_1 : Int) < ((x3_1.length : Int) : Int) := of_decide_eq_true (by first | (with_reducible assumption) | assumption)
                obtain ⟨go36, co36, eo36, gb36, gl36, cl36, HG36⟩ := Kd.R_form HO_3.out (by omega)
                (first | cases eo36 | (injection eo36 with ea_ en_ ec_; (first | subst ea_ | (injection ea_ with ea_; subst ea_)); subst ec_; clear en_))
                have GB36 := Aside0.mk gb36
                have GG36 := Aside0.mk HG36
                clear gb36 gl36 HG36
                obtain ⟨hx36_0, hf36_0⟩ := Kd.R_celln 0 HO_3.out (x4_1 : Int) p36 q36
                replace p36 := eq_true p36
                replace q36 := eq_true q36
                have HP37 := Kd.R_putg HO_3.out (x4_1 : Int) x6_2
                go_wp2_with (first | ((with_reducible refine gate_store (t := 3) (p := 78) rfl ?_); refine store_event (t := 3) (p := 78) (v := ?vo_w38) (w1 := (wr.setCell ⟨go36, (x4_1 : Int).toNat, none⟩ (.int .i64 x6_2))) ?hg ?ho ?hn ?hr ?_; (case ho => rfl); (case hg => rfl); (case hn => rfl); (case hr => first | (go_simp; done) | (go_simp; rfl)); intro w38 hw; have hg : wr.grownBy w38 (some go36) := (by rw [hw]; exact HP37.2); have hp_ : Kd.R (Kd.int .i64) 3 w38 w.heap.size (fun _ => True) (.slice (some ⟨go36, 0, none⟩) x3_1.length co11) y396 := (by rw [hw, Ny396.out]; exact HP37.1); clear HP37; have n0_ := Aside0.mk (hp_); have n1_ := Aside0.mk ((by rw [hw]; exact below_set (HB.out) GB36.out : Below w.heap.size w w38)); clear HO_3; clear HB; have HO_3 := n0_; have HB := n1_; clear n0_ n1_; clear hg hw hp_))
                (try simp only [← hl3_1])
                go_roundg k2
                case measure => have := HK1.out; have := HK2.out; omega
                case rel => exact ⟨(y396), (wrap64 (x4_1 - 1)), (by first | rfl | (simp; done) | (simp [*]; done)), H', ⟨by have := HK1.out; have := HK2.out; omega⟩, ⟨by (try simp only [hl3_1]); (with_reducible repeat (first | apply Kd.R_alloc | apply Kd.R_drewN | apply Kd.R_drew)); exact HO_3.out⟩, ⟨by repeat (first | (with_reducible first | exact HB.out | apply below_alloc | apply pw_below_drewN | apply below_drew1) | exact HB.out)⟩⟩
               ·rw [if_neg c35] at H
                exact absurd H (by simp)
              ·rw [if_neg c34] at H
               exact absurd H (by simp)
          ·rw [if_neg c16] at H
           exact absurd H (by simp)
         ·rw [if_neg c15] at H
          exact absurd H (by simp)
       ·rw [if_neg c12] at H
        have c12b0 : decide (0 ≤ x4_1) = false := decide_eq_false c12
        clear c12
        obtain rfl := Option.some.inj H
        go_wp2
        go_ret
        exact ⟨_, by first | rfl | (simp [errW_none, errW_some] <;> rfl) | (simp only [← hji6]; first | rfl | (simp [errW_none, errW_some] <;> rfl)) | (simp [*, errW_none, errW_some] <;> rfl), by (with_reducible repeat (first | apply Kd.R_alloc | apply Kd.R_drewN | apply Kd.R_drew)); exact HO_3.out, by repeat (first | (with_reducible first | exact HB.out | apply below_alloc | apply pw_below_drewN | apply below_drew1) | exact HB.out)⟩
    ·rw [if_neg c8] at H
     exact absurd H (by simp)
   ·rw [if_neg c7] at H
    exact absurd H (by simp)
  ·rw [if_neg c5] at H
   exact absurd H (by simp)

end Go.Proofs.Ytefinjjcbpdljaa.PB
