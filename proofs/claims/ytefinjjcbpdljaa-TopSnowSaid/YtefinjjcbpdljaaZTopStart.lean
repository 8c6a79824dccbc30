-- Written by a program of this session (wip/top/gen.py). Not trusted: Lean checks it.
import Derived.Test.YtefinjjcbpdljaaZPPxD
import Derived.Test.YtefinjjcbpdljaaZTopBase
import Derived.Test.YtefinjjcbpdljaaZTopClash
import Derived.Test.YtefinjjcbpdljaaZTopShort
import Derived.LoopN
import Derived.Lib.LazyBuf
namespace Go.Proofs.Ytefinjjcbpdljaa.PB
open Go.RowKit Go.Proofs.YtefinjjcbpdljaaW.PrintWords Go.Proofs.YtefinjjcbpdljaaW.PrintLast Go.Proofs.YtefinjjcbpdljaaW.PrintMore
attribute [local go_sem] max2_int min2_int max_two min_two max_three min_three max_four min_four   -- for this text's walks alone
set_option linter.unusedVariables false
set_option linter.unusedSimpArgs false

set_option maxHeartbeats 8000000 in
set_option maxRecDepth 100000 in
theorem start_zz0 (g gl gw gf gp : Nat) (i : Int) (bv : Value) (L u0 u1 : Int) (w : World) (HG : w.heap[g]? = some (.cells #[.slice (some ⟨gl, 0, none⟩) 2 2, .slice (some ⟨gw, 0, none⟩) 2 2, .slice (some ⟨gf, 0, none⟩) 2 2, .slice (some ⟨gp, 0, none⟩) 2 2, bv, .int .i64 L] 75 (0, 0))) (HF : w.heap[gf]? = some (.cells #[.int .i64 u0, .int .i64 u1] 3 (0, 0))) (HP : w.heap[gp]? = some (.cells #[.int .i64 0, .int .i64 0, .int .i64 0, .int .i64 0, .int .i64 0, .int .i64 0, .int .i64 0, .int .i64 0] 91 (0, 0))) : Calls Try.prog 45 #[.pointer (some ⟨g, 0, none⟩), .int .i64 i, .int .i64 0] w fun e w' => e = .returned (.int .i64 u0) ∧ Below w.heap.size w w' := by
  have HB := Below.refl w.heap.size w
  obtain ⟨g0, g1, g2, g3, g4, g5⟩ := cl6 HG
  obtain ⟨f0, f1⟩ := cl2 HF
  obtain ⟨p0, p1, p2, p3, p4, p5, p6, p7⟩ := cl8 HP
  go_enter Try.func45, Try.ntmps45
  go_wp2
  refine wp_loop_rounds 3 ?_
  rw [rounds_succ]
  have HX := blk_new w (.cells #[.int .i64 0, .int .i64 0, .int .i64 0, .int .i64 0] 91 (0, 0))
  obtain ⟨x0, x1, x2, x3⟩ := cl4 HX
  go_wp2
  go_quiet (fail)
  clear g0 g1 g2 g3 g4 g5 f0 f1 p0 p1 p2 p3 p4 p5 p6 p7
  replace HG := blk_drewN (blk_alloc HG (.cells #[.int .i64 0, .int .i64 0, .int .i64 0, .int .i64 0] 91 (0, 0))) nq
  replace HF := blk_drewN (blk_alloc HF (.cells #[.int .i64 0, .int .i64 0, .int .i64 0, .int .i64 0] 91 (0, 0))) nq
  replace HP := blk_drewN (blk_alloc HP (.cells #[.int .i64 0, .int .i64 0, .int .i64 0, .int .i64 0] 91 (0, 0))) nq
  replace HB := pw_below_drewN (below_alloc HB (.cells #[.int .i64 0, .int .i64 0, .int .i64 0, .int .i64 0] 91 (0, 0))) nq
  clear HX x0 x1 x2 x3
  generalize (w.alloc (.cells #[.int .i64 0, .int .i64 0, .int .i64 0, .int .i64 0] 91 (0, 0))).drewN nq = w1 at *
  obtain ⟨g0, g1, g2, g3, g4, g5⟩ := cl6 HG
  obtain ⟨f0, f1⟩ := cl2 HF
  obtain ⟨p0, p1, p2, p3, p4, p5, p6, p7⟩ := cl8 HP
  go_wp2
  rw [rounds_succ]
  have HX := blk_new w1 (.cells #[.int .i64 0, .int .i64 0, .int .i64 0, .int .i64 0] 91 (0, 0))
  obtain ⟨x0, x1, x2, x3⟩ := cl4 HX
  go_wp2
  go_quiet (fail)
  clear g0 g1 g2 g3 g4 g5 f0 f1 p0 p1 p2 p3 p4 p5 p6 p7
  replace HG := blk_drewN (blk_alloc HG (.cells #[.int .i64 0, .int .i64 0, .int .i64 0, .int .i64 0] 91 (0, 0))) nq
  replace HF := blk_drewN (blk_alloc HF (.cells #[.int .i64 0, .int .i64 0, .int .i64 0, .int .i64 0] 91 (0, 0))) nq
  replace HP := blk_drewN (blk_alloc HP (.cells #[.int .i64 0, .int .i64 0, .int .i64 0, .int .i64 0] 91 (0, 0))) nq
  replace HB := pw_below_drewN (below_alloc HB (.cells #[.int .i64 0, .int .i64 0, .int .i64 0, .int .i64 0] 91 (0, 0))) nq
  clear HX x0 x1 x2 x3
  generalize (w1.alloc (.cells #[.int .i64 0, .int .i64 0, .int .i64 0, .int .i64 0] 91 (0, 0))).drewN nq = w2 at *
  obtain ⟨g0, g1, g2, g3, g4, g5⟩ := cl6 HG
  obtain ⟨f0, f1⟩ := cl2 HF
  obtain ⟨p0, p1, p2, p3, p4, p5, p6, p7⟩ := cl8 HP
  go_wp2
  rw [rounds_succ]
  go_wp2
  (try simp only [Exit.inBlock, Exit.then])
  refine bodyPost_ret (results_tmp rfl _ _ _) rfl ?_
  exact ⟨rfl, HB⟩

set_option maxHeartbeats 8000000 in
set_option maxRecDepth 100000 in
theorem start_zz1 (g gl gw gf gp : Nat) (i : Int) (bv : Value) (L u0 u1 : Int) (w : World) (HG : w.heap[g]? = some (.cells #[.slice (some ⟨gl, 0, none⟩) 2 2, .slice (some ⟨gw, 0, none⟩) 2 2, .slice (some ⟨gf, 0, none⟩) 2 2, .slice (some ⟨gp, 0, none⟩) 2 2, bv, .int .i64 L] 75 (0, 0))) (HF : w.heap[gf]? = some (.cells #[.int .i64 u0, .int .i64 u1] 3 (0, 0))) (HP : w.heap[gp]? = some (.cells #[.int .i64 0, .int .i64 0, .int .i64 0, .int .i64 0, .int .i64 0, .int .i64 0, .int .i64 0, .int .i64 0] 91 (0, 0))) : Calls Try.prog 45 #[.pointer (some ⟨g, 0, none⟩), .int .i64 i, .int .i64 1] w fun e w' => e = .returned (.int .i64 u1) ∧ Below w.heap.size w w' := by
  have HB := Below.refl w.heap.size w
  obtain ⟨g0, g1, g2, g3, g4, g5⟩ := cl6 HG
  obtain ⟨f0, f1⟩ := cl2 HF
  obtain ⟨p0, p1, p2, p3, p4, p5, p6, p7⟩ := cl8 HP
  go_enter Try.func45, Try.ntmps45
  go_wp2
  refine wp_loop_rounds 3 ?_
  rw [rounds_succ]
  have HX := blk_new w (.cells #[.int .i64 0, .int .i64 0, .int .i64 0, .int .i64 0] 91 (0, 0))
  obtain ⟨x0, x1, x2, x3⟩ := cl4 HX
  go_wp2
  go_quiet (fail)
  clear g0 g1 g2 g3 g4 g5 f0 f1 p0 p1 p2 p3 p4 p5 p6 p7
  replace HG := blk_drewN (blk_alloc HG (.cells #[.int .i64 0, .int .i64 0, .int .i64 0, .int .i64 0] 91 (0, 0))) nq
  replace HF := blk_drewN (blk_alloc HF (.cells #[.int .i64 0, .int .i64 0, .int .i64 0, .int .i64 0] 91 (0, 0))) nq
  replace HP := blk_drewN (blk_alloc HP (.cells #[.int .i64 0, .int .i64 0, .int .i64 0, .int .i64 0] 91 (0, 0))) nq
  replace HB := pw_below_drewN (below_alloc HB (.cells #[.int .i64 0, .int .i64 0, .int .i64 0, .int .i64 0] 91 (0, 0))) nq
  clear HX x0 x1 x2 x3
  generalize (w.alloc (.cells #[.int .i64 0, .int .i64 0, .int .i64 0, .int .i64 0] 91 (0, 0))).drewN nq = w1 at *
  obtain ⟨g0, g1, g2, g3, g4, g5⟩ := cl6 HG
  obtain ⟨f0, f1⟩ := cl2 HF
  obtain ⟨p0, p1, p2, p3, p4, p5, p6, p7⟩ := cl8 HP
  go_wp2
  rw [rounds_succ]
  have HX := blk_new w1 (.cells #[.int .i64 0, .int .i64 0, .int .i64 0, .int .i64 0] 91 (0, 0))
  obtain ⟨x0, x1, x2, x3⟩ := cl4 HX
  go_wp2
  go_quiet (fail)
  clear g0 g1 g2 g3 g4 g5 f0 f1 p0 p1 p2 p3 p4 p5 p6 p7
  replace HG := blk_drewN (blk_alloc HG (.cells #[.int .i64 0, .int .i64 0, .int .i64 0, .int .i64 0] 91 (0, 0))) nq
  replace HF := blk_drewN (blk_alloc HF (.cells #[.int .i64 0, .int .i64 0, .int .i64 0, .int .i64 0] 91 (0, 0))) nq
  replace HP := blk_drewN (blk_alloc HP (.cells #[.int .i64 0, .int .i64 0, .int .i64 0, .int .i64 0] 91 (0, 0))) nq
  replace HB := pw_below_drewN (below_alloc HB (.cells #[.int .i64 0, .int .i64 0, .int .i64 0, .int .i64 0] 91 (0, 0))) nq
  clear HX x0 x1 x2 x3
  generalize (w1.alloc (.cells #[.int .i64 0, .int .i64 0, .int .i64 0, .int .i64 0] 91 (0, 0))).drewN nq = w2 at *
  obtain ⟨g0, g1, g2, g3, g4, g5⟩ := cl6 HG
  obtain ⟨f0, f1⟩ := cl2 HF
  obtain ⟨p0, p1, p2, p3, p4, p5, p6, p7⟩ := cl8 HP
  go_wp2
  rw [rounds_succ]
  go_wp2
  (try simp only [Exit.inBlock, Exit.then])
  refine bodyPost_ret (results_tmp rfl _ _ _) rfl ?_
  exact ⟨rfl, HB⟩

set_option maxHeartbeats 8000000 in
set_option maxRecDepth 100000 in
theorem start_1_0 (g gl gw gf gp : Nat) (bv : Value) (L u0 u1 : Int) (w : World) (HG : w.heap[g]? = some (.cells #[.slice (some ⟨gl, 0, none⟩) 2 2, .slice (some ⟨gw, 0, none⟩) 2 2, .slice (some ⟨gf, 0, none⟩) 2 2, .slice (some ⟨gp, 0, none⟩) 2 2, bv, .int .i64 L] 75 (0, 0))) (HF : w.heap[gf]? = some (.cells #[.int .i64 u0, .int .i64 u1] 3 (0, 0))) (HP : w.heap[gp]? = some (.cells #[.int .i64 1, .int .i64 1, .int .i64 0, .int .i64 10, .int .i64 0, .int .i64 0, .int .i64 0, .int .i64 0] 91 (0, 0))) (HL : w.heap[gl]? = some (.cells #[.int .i64 1, .int .i64 10, .bool false, .slice none 0 0, .int .i64 2, .int .i64 20, .bool false, .slice none 0 0] 45 (0, 0))) : Calls Try.prog 45 #[.pointer (some ⟨g, 0, none⟩), .int .i64 1, .int .i64 0] w fun e w' => e = .returned (.int .i64 u0) ∧ Below w.heap.size w w' := by
  have HB := Below.refl w.heap.size w
  obtain ⟨g0, g1, g2, g3, g4, g5⟩ := cl6 HG
  obtain ⟨f0, f1⟩ := cl2 HF
  obtain ⟨p0, p1, p2, p3, p4, p5, p6, p7⟩ := cl8 HP
  obtain ⟨l0, l1, l2, l3, l4, l5, l6, l7⟩ := cl8 HL
  go_enter Try.func45, Try.ntmps45
  go_wp2
  refine wp_loop_rounds 3 ?_
  rw [rounds_succ]
  have HX := blk_new w (.cells #[.int .i64 1, .int .i64 1, .int .i64 0, .int .i64 10] 91 (0, 0))
  obtain ⟨x0, x1, x2, x3⟩ := cl4 HX
  go_wp2
  clear g0 g1 g2 g3 g4 g5 f0 f1 p0 p1 p2 p3 p4 p5 p6 p7 l0 l1 l2 l3 l4 l5 l6 l7
  replace HG := blk_alloc HG (.cells #[.int .i64 1, .int .i64 1, .int .i64 0, .int .i64 10] 91 (0, 0))
  replace HF := blk_alloc HF (.cells #[.int .i64 1, .int .i64 1, .int .i64 0, .int .i64 10] 91 (0, 0))
  replace HP := blk_alloc HP (.cells #[.int .i64 1, .int .i64 1, .int .i64 0, .int .i64 10] 91 (0, 0))
  replace HL := blk_alloc HL (.cells #[.int .i64 1, .int .i64 1, .int .i64 0, .int .i64 10] 91 (0, 0))
  replace HB := below_alloc HB (.cells #[.int .i64 1, .int .i64 1, .int .i64 0, .int .i64 10] 91 (0, 0))
  clear x0 x1 x2 x3
  generalize hx0 : w.alloc (.cells #[.int .i64 1, .int .i64 1, .int .i64 0, .int .i64 10] 91 (0, 0)) = w1a at *
  clear hx0
  generalize w.heap.size = gx0 at HX ⊢
  obtain ⟨g0, g1, g2, g3, g4, g5⟩ := cl6 HG
  obtain ⟨f0, f1⟩ := cl2 HF
  obtain ⟨p0, p1, p2, p3, p4, p5, p6, p7⟩ := cl8 HP
  obtain ⟨l0, l1, l2, l3, l4, l5, l6, l7⟩ := cl8 HL
  obtain ⟨x0, x1, x2, x3⟩ := cl4 HX
  refine start_ (n := 20) (S := fun w' => w'.cell? ⟨gx0, 0, none⟩ = some (.int .i64 1) ∧ w'.cell? ⟨g, 0, none⟩ = some (.slice (some ⟨gl, 0, none⟩) 2 2) ∧ w'.cell? ⟨gl, 0, none⟩ = some (.int .i64 1) ∧ w'.cell? ⟨gl, 1, none⟩ = some (.int .i64 10) ∧ w'.cell? ⟨gl, 2, none⟩ = some (.bool false) ∧ w'.cell? ⟨gl, 3, none⟩ = some (.slice none 0 0) ∧ w'.cell? ⟨gl, 4, none⟩ = some (.int .i64 2) ∧ w'.cell? ⟨gl, 5, none⟩ = some (.int .i64 20) ∧ w'.cell? ⟨gl, 6, none⟩ = some (.bool false) ∧ w'.cell? ⟨gl, 7, none⟩ = some (.slice none 0 0)) (ds := [18]) #[false, false, false, false, false, false, false, false, false, false, false, false, false, false, false, false, false, false, false, false] (by kernel_rfl) rfl rfl ⟨x0, g0, l0, l1, l2, l3, l4, l5, l6, l7⟩ (fun hHeld => ?_)
  rw [dh_ w1a] at HG HF HP HL HX
  replace HB := below_drew1 HB
  clear g0 g1 g2 g3 g4 g5 f0 f1 p0 p1 p2 p3 p4 p5 p6 p7 l0 l1 l2 l3 l4 l5 l6 l7
  clear x0 x1 x2 x3
  generalize w1a.drew = w1b at *
  obtain ⟨g0, g1, g2, g3, g4, g5⟩ := cl6 HG
  obtain ⟨f0, f1⟩ := cl2 HF
  obtain ⟨p0, p1, p2, p3, p4, p5, p6, p7⟩ := cl8 HP
  obtain ⟨l0, l1, l2, l3, l4, l5, l6, l7⟩ := cl8 HL
  obtain ⟨x0, x1, x2, x3⟩ := cl4 HX
  refine pu_ (v := ?_) (a' := ?_) 0 (some 27) rfl rfl (by kernel_rfl) (fun _ _ _ h => h) (.inl ⟨by rfl, ?_⟩) ?_ ?_
  rotate_left
  · intro
    go_simp
    with_reducible rfl
  rotate_left
  · simp only [Act.put, zA, zB, zC, i64_w]
    rfl
  refine tk_ (v := ?_) (a' := ?_) 1 (some 28) rfl rfl (by kernel_rfl) (fun _ _ _ h => h) hHeld (.inl ⟨by rfl, ?_⟩) ?_ ?_
  rotate_left
  · rintro w' ⟨s0, s1, s2, s3, s4, s5, s6, s7, s8, s9⟩
    go_simp
    with_reducible rfl
  rotate_left
  · simp only [Act.put, zA, zB, zC, i64_w]
    rfl
  refine pu_ (v := ?_) (a' := ?_) 2 (some 29) rfl rfl (by kernel_rfl) (fun _ _ _ h => h) (.inl ⟨by rfl, ?_⟩) ?_ ?_
  rotate_left
  · intro
    go_simp
    with_reducible rfl
  rotate_left
  · simp only [Act.put, zA, zB, zC, i64_w]
    rfl
  refine pu_ (v := ?_) (a' := ?_) 3 (some 30) rfl rfl (by kernel_rfl) (fun _ _ _ h => h) (.inl ⟨by rfl, ?_⟩) ?_ ?_
  rotate_left
  · intro
    go_simp
    with_reducible rfl
  rotate_left
  · simp only [Act.put, zA, zB, zC, i64_w]
    rfl
  refine pu_ (v := ?_) (a' := ?_) 4 (some 31) rfl rfl (by kernel_rfl) (fun _ _ _ h => h) (.inl ⟨by rfl, ?_⟩) ?_ ?_
  rotate_left
  · intro
    go_simp
    with_reducible rfl
  rotate_left
  · simp only [Act.put, zA, zB, zC, i64_w]
    rfl
  refine pu_ (v := ?_) (a' := ?_) 5 (some 32) rfl rfl (by kernel_rfl) (fun _ _ _ h => h) (.inl ⟨by rfl, ?_⟩) ?_ ?_
  rotate_left
  · intro
    go_simp
    with_reducible rfl
  rotate_left
  · simp only [Act.put, zA, zB, zC, i64_w]
    rfl
  refine pu_ (v := ?_) (a' := ?_) 6 (some 33) rfl rfl (by kernel_rfl) (fun _ _ _ h => h) (.inl ⟨by rfl, ?_⟩) ?_ ?_
  rotate_left
  · intro
    go_simp
    with_reducible rfl
  rotate_left
  · simp only [Act.put, zA, zB, zC, i64_w]
    rfl
  refine pu_ (v := ?_) (a' := ?_) 8 (some 35) rfl rfl (by kernel_rfl) (fun _ _ _ h => h) (.inl ⟨by rfl, ?_⟩) ?_ ?_
  rotate_left
  · intro
    go_simp
    with_reducible rfl
  rotate_left
  · simp only [Act.put, zA, zB, zC, i64_w]
    rfl
  refine pu_ (v := ?_) (a' := ?_) 11 (some 38) rfl rfl (by kernel_rfl) (fun _ _ _ h => h) (.inl ⟨by rfl, ?_⟩) ?_ ?_
  rotate_left
  · intro
    go_simp
    with_reducible rfl
  rotate_left
  · simp only [Act.put, zA, zB, zC, i64_w]
    rfl
  refine pu_ (v := ?_) (a' := ?_) 12 (some 39) rfl rfl (by kernel_rfl) (fun _ _ _ h => h) (.inl ⟨by rfl, ?_⟩) ?_ ?_
  rotate_left
  · intro
    go_simp
    with_reducible rfl
  rotate_left
  · simp only [Act.put, zA, zB, zC, i64_w]
    rfl
  refine pu_ (v := ?_) (a' := ?_) 13 (some 40) rfl rfl (by kernel_rfl) (fun _ _ _ h => h) (.inl ⟨by rfl, ?_⟩) ?_ ?_
  rotate_left
  · intro
    go_simp
    with_reducible rfl
  rotate_left
  · simp only [Act.put, zA, zB, zC, i64_w]
    rfl
  refine pu_ (v := ?_) (a' := ?_) 15 (some 42) rfl rfl (by kernel_rfl) (fun _ _ _ h => h) (.inl ⟨by rfl, ?_⟩) ?_ ?_
  rotate_left
  · intro
    go_simp
    with_reducible rfl
  rotate_left
  · simp only [Act.put, zA, zB, zC, i64_w]
    rfl
  refine tk_ (v := ?_) (a' := ?_) 7 (some 34) rfl rfl (by kernel_rfl) (fun _ _ _ h => h) hHeld (.inl ⟨by rfl, ?_⟩) ?_ ?_
  rotate_left
  · rintro w' ⟨s0, s1, s2, s3, s4, s5, s6, s7, s8, s9⟩
    go_simp
    with_reducible rfl
  rotate_left
  · simp only [Act.put, zA, zB, zC, i64_w]
    rfl
  refine pu_ (v := ?_) (a' := ?_) 9 (some 36) rfl rfl (by kernel_rfl) (fun _ _ _ h => h) (.inl ⟨by rfl, ?_⟩) ?_ ?_
  rotate_left
  · intro
    go_simp
    with_reducible rfl
  rotate_left
  · simp only [Act.put, zA, zB, zC, i64_w]
    rfl
  refine tk_ (v := ?_) (a' := ?_) 10 (some 37) rfl rfl (by kernel_rfl) (fun _ _ _ h => h) hHeld (.inl ⟨by rfl, ?_⟩) ?_ ?_
  rotate_left
  · rintro w' ⟨s0, s1, s2, s3, s4, s5, s6, s7, s8, s9⟩
    go_simp
    with_reducible rfl
  rotate_left
  · simp only [Act.put, zA, zB, zC, i64_w]
    rfl
  refine tk_ (v := ?_) (a' := ?_) 14 (some 41) rfl rfl (by kernel_rfl) (fun _ _ _ h => h) hHeld (.inl ⟨by rfl, ?_⟩) ?_ ?_
  rotate_left
  · rintro w' ⟨s0, s1, s2, s3, s4, s5, s6, s7, s8, s9⟩
    go_simp
    with_reducible rfl
  rotate_left
  · simp only [Act.put, zA, zB, zC, i64_w]
    rfl
  refine pu_ (v := ?_) (a' := ?_) 16 (some 43) rfl rfl (by kernel_rfl) (fun _ _ _ h => h) (.inl ⟨by rfl, ?_⟩) ?_ ?_
  rotate_left
  · intro
    go_simp
    with_reducible rfl
  rotate_left
  · simp only [Act.put, zA, zB, zC, i64_w]
    rfl
  refine tk_ (v := ?_) (a' := ?_) 17 (some 44) rfl rfl (by kernel_rfl) (fun _ _ _ h => h) hHeld (.inl ⟨by rfl, ?_⟩) ?_ ?_
  rotate_left
  · rintro w' ⟨s0, s1, s2, s3, s4, s5, s6, s7, s8, s9⟩
    go_simp
    with_reducible rfl
  rotate_left
  · simp only [Act.put, zA, zB, zC, i64_w]
    rfl
  refine last_ (i := 18) (N := some 45) #[true, true, true, true, true, true, true, true, true, true, true, true, true, true, true, true, true, true, true, false] rfl rfl (by kernel_rfl) (by decide) (fun K hK => ?_)
  refine goes_ Try.func51 (by kernel_rfl) rfl #[.agg #[.int .i64 2, .int .i64 20, .bool false, .slice none 0 0], .agg #[.int .i64 1, .int .i64 10, .bool false, .slice none 0 0]] (by rfl) rfl rfl (by simp only [List.map_toArray, List.map_cons, List.map_nil]; rfl) ?_
  with_reducible refine (clash_closed 2 20 1 10 _).mono ?_
  rintro e w1c ⟨rfl, hb⟩
  refine ⟨_, rfl, ?_⟩
  refine hK.out _ _ ?_
  clear hK K
  refine norm_ (a' := ?_) ?_ ?_
  rotate_left
  · show Act.put _ (some 45) _ = _
    simp only [Act.put, List.setIfInBounds_toArray, List.set_cons_zero, List.set_cons_succ, i64_w, i32_w]
    rfl
  refine pu_ (v := ?_) (a' := ?_) 19 (some 46) rfl rfl (by kernel_rfl) (fun _ _ _ h => h) (.inl ⟨by rfl, ?_⟩) ?_ ?_
  rotate_left
  · intro
    go_simp
    with_reducible rfl
  rotate_left
  · simp only [Act.put, zA, zB, zC, i64_w]
    rfl
  refine done_ (by kernel_rfl) ?_
  
  clear g0 g1 g2 g3 g4 g5 f0 f1 p0 p1 p2 p3 p4 p5 p6 p7 l0 l1 l2 l3 l4 l5 l6 l7
  clear x0 x1 x2 x3 HX
  have qHG := blk_below HG hb
  have qHF := blk_below HF hb
  have qHP := blk_below HP hb
  have qHL := blk_below HL hb
  replace HB := below_then HB HB.size hb
  clear hb HG HF HP HL
  have HG := qHG
  have HF := qHF
  have HP := qHP
  have HL := qHL
  clear qHG qHF qHP qHL
  obtain ⟨g0, g1, g2, g3, g4, g5⟩ := cl6 HG
  obtain ⟨f0, f1⟩ := cl2 HF
  obtain ⟨p0, p1, p2, p3, p4, p5, p6, p7⟩ := cl8 HP
  obtain ⟨l0, l1, l2, l3, l4, l5, l6, l7⟩ := cl8 HL
  go_wp2
  rw [rounds_succ]
  have HX := blk_new w1c (.cells #[.int .i64 0, .int .i64 0, .int .i64 0, .int .i64 0] 91 (0, 0))
  obtain ⟨x0, x1, x2, x3⟩ := cl4 HX
  go_wp2
  go_quiet (fail)
  clear g0 g1 g2 g3 g4 g5 f0 f1 p0 p1 p2 p3 p4 p5 p6 p7 l0 l1 l2 l3 l4 l5 l6 l7
  replace HG := blk_drewN (blk_alloc HG (.cells #[.int .i64 0, .int .i64 0, .int .i64 0, .int .i64 0] 91 (0, 0))) nq
  replace HF := blk_drewN (blk_alloc HF (.cells #[.int .i64 0, .int .i64 0, .int .i64 0, .int .i64 0] 91 (0, 0))) nq
  replace HP := blk_drewN (blk_alloc HP (.cells #[.int .i64 0, .int .i64 0, .int .i64 0, .int .i64 0] 91 (0, 0))) nq
  replace HL := blk_drewN (blk_alloc HL (.cells #[.int .i64 0, .int .i64 0, .int .i64 0, .int .i64 0] 91 (0, 0))) nq
  replace HB := pw_below_drewN (below_alloc HB (.cells #[.int .i64 0, .int .i64 0, .int .i64 0, .int .i64 0] 91 (0, 0))) nq
  clear HX x0 x1 x2 x3
  generalize (w1c.alloc (.cells #[.int .i64 0, .int .i64 0, .int .i64 0, .int .i64 0] 91 (0, 0))).drewN nq = w2 at *
  obtain ⟨g0, g1, g2, g3, g4, g5⟩ := cl6 HG
  obtain ⟨f0, f1⟩ := cl2 HF
  obtain ⟨p0, p1, p2, p3, p4, p5, p6, p7⟩ := cl8 HP
  obtain ⟨l0, l1, l2, l3, l4, l5, l6, l7⟩ := cl8 HL
  go_wp2
  rw [rounds_succ]
  go_wp2
  (try simp only [Exit.inBlock, Exit.then])
  refine bodyPost_ret (results_tmp rfl _ _ _) rfl ?_
  exact ⟨rfl, HB⟩

set_option maxHeartbeats 8000000 in
set_option maxRecDepth 100000 in
theorem start_1_1 (g gl gw gf gp : Nat) (bv : Value) (L u0 u1 : Int) (w : World) (HG : w.heap[g]? = some (.cells #[.slice (some ⟨gl, 0, none⟩) 2 2, .slice (some ⟨gw, 0, none⟩) 2 2, .slice (some ⟨gf, 0, none⟩) 2 2, .slice (some ⟨gp, 0, none⟩) 2 2, bv, .int .i64 L] 75 (0, 0))) (HF : w.heap[gf]? = some (.cells #[.int .i64 u0, .int .i64 u1] 3 (0, 0))) (HP : w.heap[gp]? = some (.cells #[.int .i64 1, .int .i64 1, .int .i64 0, .int .i64 10, .int .i64 0, .int .i64 0, .int .i64 0, .int .i64 0] 91 (0, 0))) (HL : w.heap[gl]? = some (.cells #[.int .i64 1, .int .i64 10, .bool false, .slice none 0 0, .int .i64 2, .int .i64 20, .bool false, .slice none 0 0] 45 (0, 0))) : Calls Try.prog 45 #[.pointer (some ⟨g, 0, none⟩), .int .i64 1, .int .i64 1] w fun e w' => e = .returned (.int .i64 u1) ∧ Below w.heap.size w w' := by
  have HB := Below.refl w.heap.size w
  obtain ⟨g0, g1, g2, g3, g4, g5⟩ := cl6 HG
  obtain ⟨f0, f1⟩ := cl2 HF
  obtain ⟨p0, p1, p2, p3, p4, p5, p6, p7⟩ := cl8 HP
  obtain ⟨l0, l1, l2, l3, l4, l5, l6, l7⟩ := cl8 HL
  go_enter Try.func45, Try.ntmps45
  go_wp2
  refine wp_loop_rounds 3 ?_
  rw [rounds_succ]
  have HX := blk_new w (.cells #[.int .i64 1, .int .i64 1, .int .i64 0, .int .i64 10] 91 (0, 0))
  obtain ⟨x0, x1, x2, x3⟩ := cl4 HX
  go_wp2
  clear g0 g1 g2 g3 g4 g5 f0 f1 p0 p1 p2 p3 p4 p5 p6 p7 l0 l1 l2 l3 l4 l5 l6 l7
  replace HG := blk_alloc HG (.cells #[.int .i64 1, .int .i64 1, .int .i64 0, .int .i64 10] 91 (0, 0))
  replace HF := blk_alloc HF (.cells #[.int .i64 1, .int .i64 1, .int .i64 0, .int .i64 10] 91 (0, 0))
  replace HP := blk_alloc HP (.cells #[.int .i64 1, .int .i64 1, .int .i64 0, .int .i64 10] 91 (0, 0))
  replace HL := blk_alloc HL (.cells #[.int .i64 1, .int .i64 1, .int .i64 0, .int .i64 10] 91 (0, 0))
  replace HB := below_alloc HB (.cells #[.int .i64 1, .int .i64 1, .int .i64 0, .int .i64 10] 91 (0, 0))
  clear x0 x1 x2 x3
  generalize hx0 : w.alloc (.cells #[.int .i64 1, .int .i64 1, .int .i64 0, .int .i64 10] 91 (0, 0)) = w1a at *
  clear hx0
  generalize w.heap.size = gx0 at HX ⊢
  obtain ⟨g0, g1, g2, g3, g4, g5⟩ := cl6 HG
  obtain ⟨f0, f1⟩ := cl2 HF
  obtain ⟨p0, p1, p2, p3, p4, p5, p6, p7⟩ := cl8 HP
  obtain ⟨l0, l1, l2, l3, l4, l5, l6, l7⟩ := cl8 HL
  obtain ⟨x0, x1, x2, x3⟩ := cl4 HX
  refine start_ (n := 20) (S := fun w' => w'.cell? ⟨gx0, 0, none⟩ = some (.int .i64 1) ∧ w'.cell? ⟨g, 0, none⟩ = some (.slice (some ⟨gl, 0, none⟩) 2 2) ∧ w'.cell? ⟨gl, 0, none⟩ = some (.int .i64 1) ∧ w'.cell? ⟨gl, 1, none⟩ = some (.int .i64 10) ∧ w'.cell? ⟨gl, 2, none⟩ = some (.bool false) ∧ w'.cell? ⟨gl, 3, none⟩ = some (.slice none 0 0) ∧ w'.cell? ⟨gl, 4, none⟩ = some (.int .i64 2) ∧ w'.cell? ⟨gl, 5, none⟩ = some (.int .i64 20) ∧ w'.cell? ⟨gl, 6, none⟩ = some (.bool false) ∧ w'.cell? ⟨gl, 7, none⟩ = some (.slice none 0 0)) (ds := [18]) #[false, false, false, false, false, false, false, false, false, false, false, false, false, false, false, false, false, false, false, false] (by kernel_rfl) rfl rfl ⟨x0, g0, l0, l1, l2, l3, l4, l5, l6, l7⟩ (fun hHeld => ?_)
  rw [dh_ w1a] at HG HF HP HL HX
  replace HB := below_drew1 HB
  clear g0 g1 g2 g3 g4 g5 f0 f1 p0 p1 p2 p3 p4 p5 p6 p7 l0 l1 l2 l3 l4 l5 l6 l7
  clear x0 x1 x2 x3
  generalize w1a.drew = w1b at *
  obtain ⟨g0, g1, g2, g3, g4, g5⟩ := cl6 HG
  obtain ⟨f0, f1⟩ := cl2 HF
  obtain ⟨p0, p1, p2, p3, p4, p5, p6, p7⟩ := cl8 HP
  obtain ⟨l0, l1, l2, l3, l4, l5, l6, l7⟩ := cl8 HL
  obtain ⟨x0, x1, x2, x3⟩ := cl4 HX
  refine pu_ (v := ?_) (a' := ?_) 0 (some 27) rfl rfl (by kernel_rfl) (fun _ _ _ h => h) (.inl ⟨by rfl, ?_⟩) ?_ ?_
  rotate_left
  · intro
    go_simp
    with_reducible rfl
  rotate_left
  · simp only [Act.put, zA, zB, zC, i64_w]
    rfl
  refine tk_ (v := ?_) (a' := ?_) 1 (some 28) rfl rfl (by kernel_rfl) (fun _ _ _ h => h) hHeld (.inl ⟨by rfl, ?_⟩) ?_ ?_
  rotate_left
  · rintro w' ⟨s0, s1, s2, s3, s4, s5, s6, s7, s8, s9⟩
    go_simp
    with_reducible rfl
  rotate_left
  · simp only [Act.put, zA, zB, zC, i64_w]
    rfl
  refine pu_ (v := ?_) (a' := ?_) 2 (some 29) rfl rfl (by kernel_rfl) (fun _ _ _ h => h) (.inl ⟨by rfl, ?_⟩) ?_ ?_
  rotate_left
  · intro
    go_simp
    with_reducible rfl
  rotate_left
  · simp only [Act.put, zA, zB, zC, i64_w]
    rfl
  refine pu_ (v := ?_) (a' := ?_) 3 (some 30) rfl rfl (by kernel_rfl) (fun _ _ _ h => h) (.inl ⟨by rfl, ?_⟩) ?_ ?_
  rotate_left
  · intro
    go_simp
    with_reducible rfl
  rotate_left
  · simp only [Act.put, zA, zB, zC, i64_w]
    rfl
  refine pu_ (v := ?_) (a' := ?_) 4 (some 31) rfl rfl (by kernel_rfl) (fun _ _ _ h => h) (.inl ⟨by rfl, ?_⟩) ?_ ?_
  rotate_left
  · intro
    go_simp
    with_reducible rfl
  rotate_left
  · simp only [Act.put, zA, zB, zC, i64_w]
    rfl
  refine pu_ (v := ?_) (a' := ?_) 5 (some 32) rfl rfl (by kernel_rfl) (fun _ _ _ h => h) (.inl ⟨by rfl, ?_⟩) ?_ ?_
  rotate_left
  · intro
    go_simp
    with_reducible rfl
  rotate_left
  · simp only [Act.put, zA, zB, zC, i64_w]
    rfl
  refine pu_ (v := ?_) (a' := ?_) 6 (some 33) rfl rfl (by kernel_rfl) (fun _ _ _ h => h) (.inl ⟨by rfl, ?_⟩) ?_ ?_
  rotate_left
  · intro
    go_simp
    with_reducible rfl
  rotate_left
  · simp only [Act.put, zA, zB, zC, i64_w]
    rfl
  refine pu_ (v := ?_) (a' := ?_) 8 (some 35) rfl rfl (by kernel_rfl) (fun _ _ _ h => h) (.inl ⟨by rfl, ?_⟩) ?_ ?_
  rotate_left
  · intro
    go_simp
    with_reducible rfl
  rotate_left
  · simp only [Act.put, zA, zB, zC, i64_w]
    rfl
  refine pu_ (v := ?_) (a' := ?_) 11 (some 38) rfl rfl (by kernel_rfl) (fun _ _ _ h => h) (.inl ⟨by rfl, ?_⟩) ?_ ?_
  rotate_left
  · intro
    go_simp
    with_reducible rfl
  rotate_left
  · simp only [Act.put, zA, zB, zC, i64_w]
    rfl
  refine pu_ (v := ?_) (a' := ?_) 12 (some 39) rfl rfl (by kernel_rfl) (fun _ _ _ h => h) (.inl ⟨by rfl, ?_⟩) ?_ ?_
  rotate_left
  · intro
    go_simp
    with_reducible rfl
  rotate_left
  · simp only [Act.put, zA, zB, zC, i64_w]
    rfl
  refine pu_ (v := ?_) (a' := ?_) 13 (some 40) rfl rfl (by kernel_rfl) (fun _ _ _ h => h) (.inl ⟨by rfl, ?_⟩) ?_ ?_
  rotate_left
  · intro
    go_simp
    with_reducible rfl
  rotate_left
  · simp only [Act.put, zA, zB, zC, i64_w]
    rfl
  refine pu_ (v := ?_) (a' := ?_) 15 (some 42) rfl rfl (by kernel_rfl) (fun _ _ _ h => h) (.inl ⟨by rfl, ?_⟩) ?_ ?_
  rotate_left
  · intro
    go_simp
    with_reducible rfl
  rotate_left
  · simp only [Act.put, zA, zB, zC, i64_w]
    rfl
  refine tk_ (v := ?_) (a' := ?_) 7 (some 34) rfl rfl (by kernel_rfl) (fun _ _ _ h => h) hHeld (.inl ⟨by rfl, ?_⟩) ?_ ?_
  rotate_left
  · rintro w' ⟨s0, s1, s2, s3, s4, s5, s6, s7, s8, s9⟩
    go_simp
    with_reducible rfl
  rotate_left
  · simp only [Act.put, zA, zB, zC, i64_w]
    rfl
  refine pu_ (v := ?_) (a' := ?_) 9 (some 36) rfl rfl (by kernel_rfl) (fun _ _ _ h => h) (.inl ⟨by rfl, ?_⟩) ?_ ?_
  rotate_left
  · intro
    go_simp
    with_reducible rfl
  rotate_left
  · simp only [Act.put, zA, zB, zC, i64_w]
    rfl
  refine tk_ (v := ?_) (a' := ?_) 10 (some 37) rfl rfl (by kernel_rfl) (fun _ _ _ h => h) hHeld (.inl ⟨by rfl, ?_⟩) ?_ ?_
  rotate_left
  · rintro w' ⟨s0, s1, s2, s3, s4, s5, s6, s7, s8, s9⟩
    go_simp
    with_reducible rfl
  rotate_left
  · simp only [Act.put, zA, zB, zC, i64_w]
    rfl
  refine tk_ (v := ?_) (a' := ?_) 14 (some 41) rfl rfl (by kernel_rfl) (fun _ _ _ h => h) hHeld (.inl ⟨by rfl, ?_⟩) ?_ ?_
  rotate_left
  · rintro w' ⟨s0, s1, s2, s3, s4, s5, s6, s7, s8, s9⟩
    go_simp
    with_reducible rfl
  rotate_left
  · simp only [Act.put, zA, zB, zC, i64_w]
    rfl
  refine pu_ (v := ?_) (a' := ?_) 16 (some 43) rfl rfl (by kernel_rfl) (fun _ _ _ h => h) (.inl ⟨by rfl, ?_⟩) ?_ ?_
  rotate_left
  · intro
    go_simp
    with_reducible rfl
  rotate_left
  · simp only [Act.put, zA, zB, zC, i64_w]
    rfl
  refine tk_ (v := ?_) (a' := ?_) 17 (some 44) rfl rfl (by kernel_rfl) (fun _ _ _ h => h) hHeld (.inl ⟨by rfl, ?_⟩) ?_ ?_
  rotate_left
  · rintro w' ⟨s0, s1, s2, s3, s4, s5, s6, s7, s8, s9⟩
    go_simp
    with_reducible rfl
  rotate_left
  · simp only [Act.put, zA, zB, zC, i64_w]
    rfl
  refine last_ (i := 18) (N := some 45) #[true, true, true, true, true, true, true, true, true, true, true, true, true, true, true, true, true, true, true, false] rfl rfl (by kernel_rfl) (by decide) (fun K hK => ?_)
  refine goes_ Try.func51 (by kernel_rfl) rfl #[.agg #[.int .i64 2, .int .i64 20, .bool false, .slice none 0 0], .agg #[.int .i64 1, .int .i64 10, .bool false, .slice none 0 0]] (by rfl) rfl rfl (by simp only [List.map_toArray, List.map_cons, List.map_nil]; rfl) ?_
  with_reducible refine (clash_closed 2 20 1 10 _).mono ?_
  rintro e w1c ⟨rfl, hb⟩
  refine ⟨_, rfl, ?_⟩
  refine hK.out _ _ ?_
  clear hK K
  refine norm_ (a' := ?_) ?_ ?_
  rotate_left
  · show Act.put _ (some 45) _ = _
    simp only [Act.put, List.setIfInBounds_toArray, List.set_cons_zero, List.set_cons_succ, i64_w, i32_w]
    rfl
  refine pu_ (v := ?_) (a' := ?_) 19 (some 46) rfl rfl (by kernel_rfl) (fun _ _ _ h => h) (.inl ⟨by rfl, ?_⟩) ?_ ?_
  rotate_left
  · intro
    go_simp
    with_reducible rfl
  rotate_left
  · simp only [Act.put, zA, zB, zC, i64_w]
    rfl
  refine done_ (by kernel_rfl) ?_
  
  clear g0 g1 g2 g3 g4 g5 f0 f1 p0 p1 p2 p3 p4 p5 p6 p7 l0 l1 l2 l3 l4 l5 l6 l7
  clear x0 x1 x2 x3 HX
  have qHG := blk_below HG hb
  have qHF := blk_below HF hb
  have qHP := blk_below HP hb
  have qHL := blk_below HL hb
  replace HB := below_then HB HB.size hb
  clear hb HG HF HP HL
  have HG := qHG
  have HF := qHF
  have HP := qHP
  have HL := qHL
  clear qHG qHF qHP qHL
  obtain ⟨g0, g1, g2, g3, g4, g5⟩ := cl6 HG
  obtain ⟨f0, f1⟩ := cl2 HF
  obtain ⟨p0, p1, p2, p3, p4, p5, p6, p7⟩ := cl8 HP
  obtain ⟨l0, l1, l2, l3, l4, l5, l6, l7⟩ := cl8 HL
  go_wp2
  rw [rounds_succ]
  have HX := blk_new w1c (.cells #[.int .i64 0, .int .i64 0, .int .i64 0, .int .i64 0] 91 (0, 0))
  obtain ⟨x0, x1, x2, x3⟩ := cl4 HX
  go_wp2
  go_quiet (fail)
  clear g0 g1 g2 g3 g4 g5 f0 f1 p0 p1 p2 p3 p4 p5 p6 p7 l0 l1 l2 l3 l4 l5 l6 l7
  replace HG := blk_drewN (blk_alloc HG (.cells #[.int .i64 0, .int .i64 0, .int .i64 0, .int .i64 0] 91 (0, 0))) nq
  replace HF := blk_drewN (blk_alloc HF (.cells #[.int .i64 0, .int .i64 0, .int .i64 0, .int .i64 0] 91 (0, 0))) nq
  replace HP := blk_drewN (blk_alloc HP (.cells #[.int .i64 0, .int .i64 0, .int .i64 0, .int .i64 0] 91 (0, 0))) nq
  replace HL := blk_drewN (blk_alloc HL (.cells #[.int .i64 0, .int .i64 0, .int .i64 0, .int .i64 0] 91 (0, 0))) nq
  replace HB := pw_below_drewN (below_alloc HB (.cells #[.int .i64 0, .int .i64 0, .int .i64 0, .int .i64 0] 91 (0, 0))) nq
  clear HX x0 x1 x2 x3
  generalize (w1c.alloc (.cells #[.int .i64 0, .int .i64 0, .int .i64 0, .int .i64 0] 91 (0, 0))).drewN nq = w2 at *
  obtain ⟨g0, g1, g2, g3, g4, g5⟩ := cl6 HG
  obtain ⟨f0, f1⟩ := cl2 HF
  obtain ⟨p0, p1, p2, p3, p4, p5, p6, p7⟩ := cl8 HP
  obtain ⟨l0, l1, l2, l3, l4, l5, l6, l7⟩ := cl8 HL
  go_wp2
  rw [rounds_succ]
  go_wp2
  (try simp only [Exit.inBlock, Exit.then])
  refine bodyPost_ret (results_tmp rfl _ _ _) rfl ?_
  exact ⟨rfl, HB⟩

set_option maxHeartbeats 8000000 in
set_option maxRecDepth 100000 in
theorem start_2_0 (g gl gw gf gp : Nat) (bv : Value) (L u0 u1 : Int) (w : World) (HG : w.heap[g]? = some (.cells #[.slice (some ⟨gl, 0, none⟩) 2 2, .slice (some ⟨gw, 0, none⟩) 2 2, .slice (some ⟨gf, 0, none⟩) 2 2, .slice (some ⟨gp, 0, none⟩) 2 2, bv, .int .i64 L] 75 (0, 0))) (HF : w.heap[gf]? = some (.cells #[.int .i64 u0, .int .i64 u1] 3 (0, 0))) (HP : w.heap[gp]? = some (.cells #[.int .i64 2, .int .i64 1, .int .i64 0, .int .i64 10, .int .i64 0, .int .i64 0, .int .i64 0, .int .i64 0] 91 (0, 0))) (HL : w.heap[gl]? = some (.cells #[.int .i64 1, .int .i64 10, .bool false, .slice none 0 0, .int .i64 2, .int .i64 20, .bool false, .slice none 0 0] 45 (0, 0))) : Calls Try.prog 45 #[.pointer (some ⟨g, 0, none⟩), .int .i64 1, .int .i64 0] w fun e w' => e = .returned (.int .i64 u0) ∧ Below w.heap.size w w' := by
  have HB := Below.refl w.heap.size w
  obtain ⟨g0, g1, g2, g3, g4, g5⟩ := cl6 HG
  obtain ⟨f0, f1⟩ := cl2 HF
  obtain ⟨p0, p1, p2, p3, p4, p5, p6, p7⟩ := cl8 HP
  obtain ⟨l0, l1, l2, l3, l4, l5, l6, l7⟩ := cl8 HL
  go_enter Try.func45, Try.ntmps45
  go_wp2
  refine wp_loop_rounds 3 ?_
  rw [rounds_succ]
  have HX := blk_new w (.cells #[.int .i64 2, .int .i64 1, .int .i64 0, .int .i64 10] 91 (0, 0))
  obtain ⟨x0, x1, x2, x3⟩ := cl4 HX
  go_wp2
  clear g0 g1 g2 g3 g4 g5 f0 f1 p0 p1 p2 p3 p4 p5 p6 p7 l0 l1 l2 l3 l4 l5 l6 l7
  replace HG := blk_alloc HG (.cells #[.int .i64 2, .int .i64 1, .int .i64 0, .int .i64 10] 91 (0, 0))
  replace HF := blk_alloc HF (.cells #[.int .i64 2, .int .i64 1, .int .i64 0, .int .i64 10] 91 (0, 0))
  replace HP := blk_alloc HP (.cells #[.int .i64 2, .int .i64 1, .int .i64 0, .int .i64 10] 91 (0, 0))
  replace HL := blk_alloc HL (.cells #[.int .i64 2, .int .i64 1, .int .i64 0, .int .i64 10] 91 (0, 0))
  replace HB := below_alloc HB (.cells #[.int .i64 2, .int .i64 1, .int .i64 0, .int .i64 10] 91 (0, 0))
  clear x0 x1 x2 x3
  generalize hx0 : w.alloc (.cells #[.int .i64 2, .int .i64 1, .int .i64 0, .int .i64 10] 91 (0, 0)) = w1a at *
  clear hx0
  generalize w.heap.size = gx0 at HX ⊢
  obtain ⟨g0, g1, g2, g3, g4, g5⟩ := cl6 HG
  obtain ⟨f0, f1⟩ := cl2 HF
  obtain ⟨p0, p1, p2, p3, p4, p5, p6, p7⟩ := cl8 HP
  obtain ⟨l0, l1, l2, l3, l4, l5, l6, l7⟩ := cl8 HL
  obtain ⟨x0, x1, x2, x3⟩ := cl4 HX
  refine start_ (n := 20) (S := fun w' => w'.cell? ⟨gx0, 0, none⟩ = some (.int .i64 2) ∧ w'.cell? ⟨g, 0, none⟩ = some (.slice (some ⟨gl, 0, none⟩) 2 2) ∧ w'.cell? ⟨gl, 0, none⟩ = some (.int .i64 1) ∧ w'.cell? ⟨gl, 1, none⟩ = some (.int .i64 10) ∧ w'.cell? ⟨gl, 2, none⟩ = some (.bool false) ∧ w'.cell? ⟨gl, 3, none⟩ = some (.slice none 0 0) ∧ w'.cell? ⟨gl, 4, none⟩ = some (.int .i64 2) ∧ w'.cell? ⟨gl, 5, none⟩ = some (.int .i64 20) ∧ w'.cell? ⟨gl, 6, none⟩ = some (.bool false) ∧ w'.cell? ⟨gl, 7, none⟩ = some (.slice none 0 0)) (ds := [18]) #[false, false, false, false, false, false, false, false, false, false, false, false, false, false, false, false, false, false, false, false] (by kernel_rfl) rfl rfl ⟨x0, g0, l0, l1, l2, l3, l4, l5, l6, l7⟩ (fun hHeld => ?_)
  rw [dh_ w1a] at HG HF HP HL HX
  replace HB := below_drew1 HB
  clear g0 g1 g2 g3 g4 g5 f0 f1 p0 p1 p2 p3 p4 p5 p6 p7 l0 l1 l2 l3 l4 l5 l6 l7
  clear x0 x1 x2 x3
  generalize w1a.drew = w1b at *
  obtain ⟨g0, g1, g2, g3, g4, g5⟩ := cl6 HG
  obtain ⟨f0, f1⟩ := cl2 HF
  obtain ⟨p0, p1, p2, p3, p4, p5, p6, p7⟩ := cl8 HP
  obtain ⟨l0, l1, l2, l3, l4, l5, l6, l7⟩ := cl8 HL
  obtain ⟨x0, x1, x2, x3⟩ := cl4 HX
  refine pu_ (v := ?_) (a' := ?_) 0 (some 27) rfl rfl (by kernel_rfl) (fun _ _ _ h => h) (.inl ⟨by rfl, ?_⟩) ?_ ?_
  rotate_left
  · intro
    go_simp
    with_reducible rfl
  rotate_left
  · simp only [Act.put, zA, zB, zC, i64_w]
    rfl
  refine tk_ (v := ?_) (a' := ?_) 1 (some 28) rfl rfl (by kernel_rfl) (fun _ _ _ h => h) hHeld (.inl ⟨by rfl, ?_⟩) ?_ ?_
  rotate_left
  · rintro w' ⟨s0, s1, s2, s3, s4, s5, s6, s7, s8, s9⟩
    go_simp
    with_reducible rfl
  rotate_left
  · simp only [Act.put, zA, zB, zC, i64_w]
    rfl
  refine pu_ (v := ?_) (a' := ?_) 2 (some 29) rfl rfl (by kernel_rfl) (fun _ _ _ h => h) (.inl ⟨by rfl, ?_⟩) ?_ ?_
  rotate_left
  · intro
    go_simp
    with_reducible rfl
  rotate_left
  · simp only [Act.put, zA, zB, zC, i64_w]
    rfl
  refine pu_ (v := ?_) (a' := ?_) 3 (some 30) rfl rfl (by kernel_rfl) (fun _ _ _ h => h) (.inl ⟨by rfl, ?_⟩) ?_ ?_
  rotate_left
  · intro
    go_simp
    with_reducible rfl
  rotate_left
  · simp only [Act.put, zA, zB, zC, i64_w]
    rfl
  refine pu_ (v := ?_) (a' := ?_) 4 (some 31) rfl rfl (by kernel_rfl) (fun _ _ _ h => h) (.inl ⟨by rfl, ?_⟩) ?_ ?_
  rotate_left
  · intro
    go_simp
    with_reducible rfl
  rotate_left
  · simp only [Act.put, zA, zB, zC, i64_w]
    rfl
  refine pu_ (v := ?_) (a' := ?_) 5 (some 32) rfl rfl (by kernel_rfl) (fun _ _ _ h => h) (.inl ⟨by rfl, ?_⟩) ?_ ?_
  rotate_left
  · intro
    go_simp
    with_reducible rfl
  rotate_left
  · simp only [Act.put, zA, zB, zC, i64_w]
    rfl
  refine pu_ (v := ?_) (a' := ?_) 6 (some 33) rfl rfl (by kernel_rfl) (fun _ _ _ h => h) (.inl ⟨by rfl, ?_⟩) ?_ ?_
  rotate_left
  · intro
    go_simp
    with_reducible rfl
  rotate_left
  · simp only [Act.put, zA, zB, zC, i64_w]
    rfl
  refine pu_ (v := ?_) (a' := ?_) 8 (some 35) rfl rfl (by kernel_rfl) (fun _ _ _ h => h) (.inl ⟨by rfl, ?_⟩) ?_ ?_
  rotate_left
  · intro
    go_simp
    with_reducible rfl
  rotate_left
  · simp only [Act.put, zA, zB, zC, i64_w]
    rfl
  refine pu_ (v := ?_) (a' := ?_) 11 (some 38) rfl rfl (by kernel_rfl) (fun _ _ _ h => h) (.inl ⟨by rfl, ?_⟩) ?_ ?_
  rotate_left
  · intro
    go_simp
    with_reducible rfl
  rotate_left
  · simp only [Act.put, zA, zB, zC, i64_w]
    rfl
  refine pu_ (v := ?_) (a' := ?_) 12 (some 39) rfl rfl (by kernel_rfl) (fun _ _ _ h => h) (.inl ⟨by rfl, ?_⟩) ?_ ?_
  rotate_left
  · intro
    go_simp
    with_reducible rfl
  rotate_left
  · simp only [Act.put, zA, zB, zC, i64_w]
    rfl
  refine pu_ (v := ?_) (a' := ?_) 13 (some 40) rfl rfl (by kernel_rfl) (fun _ _ _ h => h) (.inl ⟨by rfl, ?_⟩) ?_ ?_
  rotate_left
  · intro
    go_simp
    with_reducible rfl
  rotate_left
  · simp only [Act.put, zA, zB, zC, i64_w]
    rfl
  refine pu_ (v := ?_) (a' := ?_) 15 (some 42) rfl rfl (by kernel_rfl) (fun _ _ _ h => h) (.inl ⟨by rfl, ?_⟩) ?_ ?_
  rotate_left
  · intro
    go_simp
    with_reducible rfl
  rotate_left
  · simp only [Act.put, zA, zB, zC, i64_w]
    rfl
  refine tk_ (v := ?_) (a' := ?_) 7 (some 34) rfl rfl (by kernel_rfl) (fun _ _ _ h => h) hHeld (.inl ⟨by rfl, ?_⟩) ?_ ?_
  rotate_left
  · rintro w' ⟨s0, s1, s2, s3, s4, s5, s6, s7, s8, s9⟩
    go_simp
    with_reducible rfl
  rotate_left
  · simp only [Act.put, zA, zB, zC, i64_w]
    rfl
  refine pu_ (v := ?_) (a' := ?_) 9 (some 36) rfl rfl (by kernel_rfl) (fun _ _ _ h => h) (.inl ⟨by rfl, ?_⟩) ?_ ?_
  rotate_left
  · intro
    go_simp
    with_reducible rfl
  rotate_left
  · simp only [Act.put, zA, zB, zC, i64_w]
    rfl
  refine tk_ (v := ?_) (a' := ?_) 10 (some 37) rfl rfl (by kernel_rfl) (fun _ _ _ h => h) hHeld (.inl ⟨by rfl, ?_⟩) ?_ ?_
  rotate_left
  · rintro w' ⟨s0, s1, s2, s3, s4, s5, s6, s7, s8, s9⟩
    go_simp
    with_reducible rfl
  rotate_left
  · simp only [Act.put, zA, zB, zC, i64_w]
    rfl
  refine tk_ (v := ?_) (a' := ?_) 14 (some 41) rfl rfl (by kernel_rfl) (fun _ _ _ h => h) hHeld (.inl ⟨by rfl, ?_⟩) ?_ ?_
  rotate_left
  · rintro w' ⟨s0, s1, s2, s3, s4, s5, s6, s7, s8, s9⟩
    go_simp
    with_reducible rfl
  rotate_left
  · simp only [Act.put, zA, zB, zC, i64_w]
    rfl
  refine pu_ (v := ?_) (a' := ?_) 16 (some 43) rfl rfl (by kernel_rfl) (fun _ _ _ h => h) (.inl ⟨by rfl, ?_⟩) ?_ ?_
  rotate_left
  · intro
    go_simp
    with_reducible rfl
  rotate_left
  · simp only [Act.put, zA, zB, zC, i64_w]
    rfl
  refine tk_ (v := ?_) (a' := ?_) 17 (some 44) rfl rfl (by kernel_rfl) (fun _ _ _ h => h) hHeld (.inl ⟨by rfl, ?_⟩) ?_ ?_
  rotate_left
  · rintro w' ⟨s0, s1, s2, s3, s4, s5, s6, s7, s8, s9⟩
    go_simp
    with_reducible rfl
  rotate_left
  · simp only [Act.put, zA, zB, zC, i64_w]
    rfl
  refine last_ (i := 18) (N := some 45) #[true, true, true, true, true, true, true, true, true, true, true, true, true, true, true, true, true, true, true, false] rfl rfl (by kernel_rfl) (by decide) (fun K hK => ?_)
  refine goes_ Try.func51 (by kernel_rfl) rfl #[.agg #[.int .i64 2, .int .i64 20, .bool false, .slice none 0 0], .agg #[.int .i64 1, .int .i64 10, .bool false, .slice none 0 0]] (by rfl) rfl rfl (by simp only [List.map_toArray, List.map_cons, List.map_nil]; rfl) ?_
  with_reducible refine (clash_closed 2 20 1 10 _).mono ?_
  rintro e w1c ⟨rfl, hb⟩
  refine ⟨_, rfl, ?_⟩
  refine hK.out _ _ ?_
  clear hK K
  refine norm_ (a' := ?_) ?_ ?_
  rotate_left
  · show Act.put _ (some 45) _ = _
    simp only [Act.put, List.setIfInBounds_toArray, List.set_cons_zero, List.set_cons_succ, i64_w, i32_w]
    rfl
  refine pu_ (v := ?_) (a' := ?_) 19 (some 46) rfl rfl (by kernel_rfl) (fun _ _ _ h => h) (.inl ⟨by rfl, ?_⟩) ?_ ?_
  rotate_left
  · intro
    go_simp
    with_reducible rfl
  rotate_left
  · simp only [Act.put, zA, zB, zC, i64_w]
    rfl
  refine done_ (by kernel_rfl) ?_
  
  clear g0 g1 g2 g3 g4 g5 f0 f1 p0 p1 p2 p3 p4 p5 p6 p7 l0 l1 l2 l3 l4 l5 l6 l7
  clear x0 x1 x2 x3 HX
  have qHG := blk_below HG hb
  have qHF := blk_below HF hb
  have qHP := blk_below HP hb
  have qHL := blk_below HL hb
  replace HB := below_then HB HB.size hb
  clear hb HG HF HP HL
  have HG := qHG
  have HF := qHF
  have HP := qHP
  have HL := qHL
  clear qHG qHF qHP qHL
  obtain ⟨g0, g1, g2, g3, g4, g5⟩ := cl6 HG
  obtain ⟨f0, f1⟩ := cl2 HF
  obtain ⟨p0, p1, p2, p3, p4, p5, p6, p7⟩ := cl8 HP
  obtain ⟨l0, l1, l2, l3, l4, l5, l6, l7⟩ := cl8 HL
  go_wp2
  rw [rounds_succ]
  have HX := blk_new w1c (.cells #[.int .i64 0, .int .i64 0, .int .i64 0, .int .i64 0] 91 (0, 0))
  obtain ⟨x0, x1, x2, x3⟩ := cl4 HX
  go_wp2
  go_quiet (fail)
  clear g0 g1 g2 g3 g4 g5 f0 f1 p0 p1 p2 p3 p4 p5 p6 p7 l0 l1 l2 l3 l4 l5 l6 l7
  replace HG := blk_drewN (blk_alloc HG (.cells #[.int .i64 0, .int .i64 0, .int .i64 0, .int .i64 0] 91 (0, 0))) nq
  replace HF := blk_drewN (blk_alloc HF (.cells #[.int .i64 0, .int .i64 0, .int .i64 0, .int .i64 0] 91 (0, 0))) nq
  replace HP := blk_drewN (blk_alloc HP (.cells #[.int .i64 0, .int .i64 0, .int .i64 0, .int .i64 0] 91 (0, 0))) nq
  replace HL := blk_drewN (blk_alloc HL (.cells #[.int .i64 0, .int .i64 0, .int .i64 0, .int .i64 0] 91 (0, 0))) nq
  replace HB := pw_below_drewN (below_alloc HB (.cells #[.int .i64 0, .int .i64 0, .int .i64 0, .int .i64 0] 91 (0, 0))) nq
  clear HX x0 x1 x2 x3
  generalize (w1c.alloc (.cells #[.int .i64 0, .int .i64 0, .int .i64 0, .int .i64 0] 91 (0, 0))).drewN nq = w2 at *
  obtain ⟨g0, g1, g2, g3, g4, g5⟩ := cl6 HG
  obtain ⟨f0, f1⟩ := cl2 HF
  obtain ⟨p0, p1, p2, p3, p4, p5, p6, p7⟩ := cl8 HP
  obtain ⟨l0, l1, l2, l3, l4, l5, l6, l7⟩ := cl8 HL
  go_wp2
  rw [rounds_succ]
  go_wp2
  (try simp only [Exit.inBlock, Exit.then])
  refine bodyPost_ret (results_tmp rfl _ _ _) rfl ?_
  exact ⟨rfl, HB⟩

set_option maxHeartbeats 8000000 in
set_option maxRecDepth 100000 in
theorem start_2_1 (g gl gw gf gp : Nat) (bv : Value) (L u0 u1 : Int) (w : World) (HG : w.heap[g]? = some (.cells #[.slice (some ⟨gl, 0, none⟩) 2 2, .slice (some ⟨gw, 0, none⟩) 2 2, .slice (some ⟨gf, 0, none⟩) 2 2, .slice (some ⟨gp, 0, none⟩) 2 2, bv, .int .i64 L] 75 (0, 0))) (HF : w.heap[gf]? = some (.cells #[.int .i64 u0, .int .i64 u1] 3 (0, 0))) (HP : w.heap[gp]? = some (.cells #[.int .i64 2, .int .i64 1, .int .i64 0, .int .i64 10, .int .i64 0, .int .i64 0, .int .i64 0, .int .i64 0] 91 (0, 0))) (HL : w.heap[gl]? = some (.cells #[.int .i64 1, .int .i64 10, .bool false, .slice none 0 0, .int .i64 2, .int .i64 20, .bool false, .slice none 0 0] 45 (0, 0))) : Calls Try.prog 45 #[.pointer (some ⟨g, 0, none⟩), .int .i64 1, .int .i64 1] w fun e w' => e = .returned (.int .i64 u1) ∧ Below w.heap.size w w' := by
  have HB := Below.refl w.heap.size w
  obtain ⟨g0, g1, g2, g3, g4, g5⟩ := cl6 HG
  obtain ⟨f0, f1⟩ := cl2 HF
  obtain ⟨p0, p1, p2, p3, p4, p5, p6, p7⟩ := cl8 HP
  obtain ⟨l0, l1, l2, l3, l4, l5, l6, l7⟩ := cl8 HL
  go_enter Try.func45, Try.ntmps45
  go_wp2
  refine wp_loop_rounds 3 ?_
  rw [rounds_succ]
  have HX := blk_new w (.cells #[.int .i64 2, .int .i64 1, .int .i64 0, .int .i64 10] 91 (0, 0))
  obtain ⟨x0, x1, x2, x3⟩ := cl4 HX
  go_wp2
  clear g0 g1 g2 g3 g4 g5 f0 f1 p0 p1 p2 p3 p4 p5 p6 p7 l0 l1 l2 l3 l4 l5 l6 l7
  replace HG := blk_alloc HG (.cells #[.int .i64 2, .int .i64 1, .int .i64 0, .int .i64 10] 91 (0, 0))
  replace HF := blk_alloc HF (.cells #[.int .i64 2, .int .i64 1, .int .i64 0, .int .i64 10] 91 (0, 0))
  replace HP := blk_alloc HP (.cells #[.int .i64 2, .int .i64 1, .int .i64 0, .int .i64 10] 91 (0, 0))
  replace HL := blk_alloc HL (.cells #[.int .i64 2, .int .i64 1, .int .i64 0, .int .i64 10] 91 (0, 0))
  replace HB := below_alloc HB (.cells #[.int .i64 2, .int .i64 1, .int .i64 0, .int .i64 10] 91 (0, 0))
  clear x0 x1 x2 x3
  generalize hx0 : w.alloc (.cells #[.int .i64 2, .int .i64 1, .int .i64 0, .int .i64 10] 91 (0, 0)) = w1a at *
  clear hx0
  generalize w.heap.size = gx0 at HX ⊢
  obtain ⟨g0, g1, g2, g3, g4, g5⟩ := cl6 HG
  obtain ⟨f0, f1⟩ := cl2 HF
  obtain ⟨p0, p1, p2, p3, p4, p5, p6, p7⟩ := cl8 HP
  obtain ⟨l0, l1, l2, l3, l4, l5, l6, l7⟩ := cl8 HL
  obtain ⟨x0, x1, x2, x3⟩ := cl4 HX
  refine start_ (n := 20) (S := fun w' => w'.cell? ⟨gx0, 0, none⟩ = some (.int .i64 2) ∧ w'.cell? ⟨g, 0, none⟩ = some (.slice (some ⟨gl, 0, none⟩) 2 2) ∧ w'.cell? ⟨gl, 0, none⟩ = some (.int .i64 1) ∧ w'.cell? ⟨gl, 1, none⟩ = some (.int .i64 10) ∧ w'.cell? ⟨gl, 2, none⟩ = some (.bool false) ∧ w'.cell? ⟨gl, 3, none⟩ = some (.slice none 0 0) ∧ w'.cell? ⟨gl, 4, none⟩ = some (.int .i64 2) ∧ w'.cell? ⟨gl, 5, none⟩ = some (.int .i64 20) ∧ w'.cell? ⟨gl, 6, none⟩ = some (.bool false) ∧ w'.cell? ⟨gl, 7, none⟩ = some (.slice none 0 0)) (ds := [18]) #[false, false, false, false, false, false, false, false, false, false, false, false, false, false, false, false, false, false, false, false] (by kernel_rfl) rfl rfl ⟨x0, g0, l0, l1, l2, l3, l4, l5, l6, l7⟩ (fun hHeld => ?_)
  rw [dh_ w1a] at HG HF HP HL HX
  replace HB := below_drew1 HB
  clear g0 g1 g2 g3 g4 g5 f0 f1 p0 p1 p2 p3 p4 p5 p6 p7 l0 l1 l2 l3 l4 l5 l6 l7
  clear x0 x1 x2 x3
  generalize w1a.drew = w1b at *
  obtain ⟨g0, g1, g2, g3, g4, g5⟩ := cl6 HG
  obtain ⟨f0, f1⟩ := cl2 HF
  obtain ⟨p0, p1, p2, p3, p4, p5, p6, p7⟩ := cl8 HP
  obtain ⟨l0, l1, l2, l3, l4, l5, l6, l7⟩ := cl8 HL
  obtain ⟨x0, x1, x2, x3⟩ := cl4 HX
  refine pu_ (v := ?_) (a' := ?_) 0 (some 27) rfl rfl (by kernel_rfl) (fun _ _ _ h => h) (.inl ⟨by rfl, ?_⟩) ?_ ?_
  rotate_left
  · intro
    go_simp
    with_reducible rfl
  rotate_left
  · simp only [Act.put, zA, zB, zC, i64_w]
    rfl
  refine tk_ (v := ?_) (a' := ?_) 1 (some 28) rfl rfl (by kernel_rfl) (fun _ _ _ h => h) hHeld (.inl ⟨by rfl, ?_⟩) ?_ ?_
  rotate_left
  · rintro w' ⟨s0, s1, s2, s3, s4, s5, s6, s7, s8, s9⟩
    go_simp
    with_reducible rfl
  rotate_left
  · simp only [Act.put, zA, zB, zC, i64_w]
    rfl
  refine pu_ (v := ?_) (a' := ?_) 2 (some 29) rfl rfl (by kernel_rfl) (fun _ _ _ h => h) (.inl ⟨by rfl, ?_⟩) ?_ ?_
  rotate_left
  · intro
    go_simp
    with_reducible rfl
  rotate_left
  · simp only [Act.put, zA, zB, zC, i64_w]
    rfl
  refine pu_ (v := ?_) (a' := ?_) 3 (some 30) rfl rfl (by kernel_rfl) (fun _ _ _ h => h) (.inl ⟨by rfl, ?_⟩) ?_ ?_
  rotate_left
  · intro
    go_simp
    with_reducible rfl
  rotate_left
  · simp only [Act.put, zA, zB, zC, i64_w]
    rfl
  refine pu_ (v := ?_) (a' := ?_) 4 (some 31) rfl rfl (by kernel_rfl) (fun _ _ _ h => h) (.inl ⟨by rfl, ?_⟩) ?_ ?_
  rotate_left
  · intro
    go_simp
    with_reducible rfl
  rotate_left
  · simp only [Act.put, zA, zB, zC, i64_w]
    rfl
  refine pu_ (v := ?_) (a' := ?_) 5 (some 32) rfl rfl (by kernel_rfl) (fun _ _ _ h => h) (.inl ⟨by rfl, ?_⟩) ?_ ?_
  rotate_left
  · intro
    go_simp
    with_reducible rfl
  rotate_left
  · simp only [Act.put, zA, zB, zC, i64_w]
    rfl
  refine pu_ (v := ?_) (a' := ?_) 6 (some 33) rfl rfl (by kernel_rfl) (fun _ _ _ h => h) (.inl ⟨by rfl, ?_⟩) ?_ ?_
  rotate_left
  · intro
    go_simp
    with_reducible rfl
  rotate_left
  · simp only [Act.put, zA, zB, zC, i64_w]
    rfl
  refine pu_ (v := ?_) (a' := ?_) 8 (some 35) rfl rfl (by kernel_rfl) (fun _ _ _ h => h) (.inl ⟨by rfl, ?_⟩) ?_ ?_
  rotate_left
  · intro
    go_simp
    with_reducible rfl
  rotate_left
  · simp only [Act.put, zA, zB, zC, i64_w]
    rfl
  refine pu_ (v := ?_) (a' := ?_) 11 (some 38) rfl rfl (by kernel_rfl) (fun _ _ _ h => h) (.inl ⟨by rfl, ?_⟩) ?_ ?_
  rotate_left
  · intro
    go_simp
    with_reducible rfl
  rotate_left
  · simp only [Act.put, zA, zB, zC, i64_w]
    rfl
  refine pu_ (v := ?_) (a' := ?_) 12 (some 39) rfl rfl (by kernel_rfl) (fun _ _ _ h => h) (.inl ⟨by rfl, ?_⟩) ?_ ?_
  rotate_left
  · intro
    go_simp
    with_reducible rfl
  rotate_left
  · simp only [Act.put, zA, zB, zC, i64_w]
    rfl
  refine pu_ (v := ?_) (a' := ?_) 13 (some 40) rfl rfl (by kernel_rfl) (fun _ _ _ h => h) (.inl ⟨by rfl, ?_⟩) ?_ ?_
  rotate_left
  · intro
    go_simp
    with_reducible rfl
  rotate_left
  · simp only [Act.put, zA, zB, zC, i64_w]
    rfl
  refine pu_ (v := ?_) (a' := ?_) 15 (some 42) rfl rfl (by kernel_rfl) (fun _ _ _ h => h) (.inl ⟨by rfl, ?_⟩) ?_ ?_
  rotate_left
  · intro
    go_simp
    with_reducible rfl
  rotate_left
  · simp only [Act.put, zA, zB, zC, i64_w]
    rfl
  refine tk_ (v := ?_) (a' := ?_) 7 (some 34) rfl rfl (by kernel_rfl) (fun _ _ _ h => h) hHeld (.inl ⟨by rfl, ?_⟩) ?_ ?_
  rotate_left
  · rintro w' ⟨s0, s1, s2, s3, s4, s5, s6, s7, s8, s9⟩
    go_simp
    with_reducible rfl
  rotate_left
  · simp only [Act.put, zA, zB, zC, i64_w]
    rfl
  refine pu_ (v := ?_) (a' := ?_) 9 (some 36) rfl rfl (by kernel_rfl) (fun _ _ _ h => h) (.inl ⟨by rfl, ?_⟩) ?_ ?_
  rotate_left
  · intro
    go_simp
    with_reducible rfl
  rotate_left
  · simp only [Act.put, zA, zB, zC, i64_w]
    rfl
  refine tk_ (v := ?_) (a' := ?_) 10 (some 37) rfl rfl (by kernel_rfl) (fun _ _ _ h => h) hHeld (.inl ⟨by rfl, ?_⟩) ?_ ?_
  rotate_left
  · rintro w' ⟨s0, s1, s2, s3, s4, s5, s6, s7, s8, s9⟩
    go_simp
    with_reducible rfl
  rotate_left
  · simp only [Act.put, zA, zB, zC, i64_w]
    rfl
  refine tk_ (v := ?_) (a' := ?_) 14 (some 41) rfl rfl (by kernel_rfl) (fun _ _ _ h => h) hHeld (.inl ⟨by rfl, ?_⟩) ?_ ?_
  rotate_left
  · rintro w' ⟨s0, s1, s2, s3, s4, s5, s6, s7, s8, s9⟩
    go_simp
    with_reducible rfl
  rotate_left
  · simp only [Act.put, zA, zB, zC, i64_w]
    rfl
  refine pu_ (v := ?_) (a' := ?_) 16 (some 43) rfl rfl (by kernel_rfl) (fun _ _ _ h => h) (.inl ⟨by rfl, ?_⟩) ?_ ?_
  rotate_left
  · intro
    go_simp
    with_reducible rfl
  rotate_left
  · simp only [Act.put, zA, zB, zC, i64_w]
    rfl
  refine tk_ (v := ?_) (a' := ?_) 17 (some 44) rfl rfl (by kernel_rfl) (fun _ _ _ h => h) hHeld (.inl ⟨by rfl, ?_⟩) ?_ ?_
  rotate_left
  · rintro w' ⟨s0, s1, s2, s3, s4, s5, s6, s7, s8, s9⟩
    go_simp
    with_reducible rfl
  rotate_left
  · simp only [Act.put, zA, zB, zC, i64_w]
    rfl
  refine last_ (i := 18) (N := some 45) #[true, true, true, true, true, true, true, true, true, true, true, true, true, true, true, true, true, true, true, false] rfl rfl (by kernel_rfl) (by decide) (fun K hK => ?_)
  refine goes_ Try.func51 (by kernel_rfl) rfl #[.agg #[.int .i64 2, .int .i64 20, .bool false, .slice none 0 0], .agg #[.int .i64 1, .int .i64 10, .bool false, .slice none 0 0]] (by rfl) rfl rfl (by simp only [List.map_toArray, List.map_cons, List.map_nil]; rfl) ?_
  with_reducible refine (clash_closed 2 20 1 10 _).mono ?_
  rintro e w1c ⟨rfl, hb⟩
  refine ⟨_, rfl, ?_⟩
  refine hK.out _ _ ?_
  clear hK K
  refine norm_ (a' := ?_) ?_ ?_
  rotate_left
  · show Act.put _ (some 45) _ = _
    simp only [Act.put, List.setIfInBounds_toArray, List.set_cons_zero, List.set_cons_succ, i64_w, i32_w]
    rfl
  refine pu_ (v := ?_) (a' := ?_) 19 (some 46) rfl rfl (by kernel_rfl) (fun _ _ _ h => h) (.inl ⟨by rfl, ?_⟩) ?_ ?_
  rotate_left
  · intro
    go_simp
    with_reducible rfl
  rotate_left
  · simp only [Act.put, zA, zB, zC, i64_w]
    rfl
  refine done_ (by kernel_rfl) ?_
  
  clear g0 g1 g2 g3 g4 g5 f0 f1 p0 p1 p2 p3 p4 p5 p6 p7 l0 l1 l2 l3 l4 l5 l6 l7
  clear x0 x1 x2 x3 HX
  have qHG := blk_below HG hb
  have qHF := blk_below HF hb
  have qHP := blk_below HP hb
  have qHL := blk_below HL hb
  replace HB := below_then HB HB.size hb
  clear hb HG HF HP HL
  have HG := qHG
  have HF := qHF
  have HP := qHP
  have HL := qHL
  clear qHG qHF qHP qHL
  obtain ⟨g0, g1, g2, g3, g4, g5⟩ := cl6 HG
  obtain ⟨f0, f1⟩ := cl2 HF
  obtain ⟨p0, p1, p2, p3, p4, p5, p6, p7⟩ := cl8 HP
  obtain ⟨l0, l1, l2, l3, l4, l5, l6, l7⟩ := cl8 HL
  go_wp2
  rw [rounds_succ]
  have HX := blk_new w1c (.cells #[.int .i64 0, .int .i64 0, .int .i64 0, .int .i64 0] 91 (0, 0))
  obtain ⟨x0, x1, x2, x3⟩ := cl4 HX
  go_wp2
  go_quiet (fail)
  clear g0 g1 g2 g3 g4 g5 f0 f1 p0 p1 p2 p3 p4 p5 p6 p7 l0 l1 l2 l3 l4 l5 l6 l7
  replace HG := blk_drewN (blk_alloc HG (.cells #[.int .i64 0, .int .i64 0, .int .i64 0, .int .i64 0] 91 (0, 0))) nq
  replace HF := blk_drewN (blk_alloc HF (.cells #[.int .i64 0, .int .i64 0, .int .i64 0, .int .i64 0] 91 (0, 0))) nq
  replace HP := blk_drewN (blk_alloc HP (.cells #[.int .i64 0, .int .i64 0, .int .i64 0, .int .i64 0] 91 (0, 0))) nq
  replace HL := blk_drewN (blk_alloc HL (.cells #[.int .i64 0, .int .i64 0, .int .i64 0, .int .i64 0] 91 (0, 0))) nq
  replace HB := pw_below_drewN (below_alloc HB (.cells #[.int .i64 0, .int .i64 0, .int .i64 0, .int .i64 0] 91 (0, 0))) nq
  clear HX x0 x1 x2 x3
  generalize (w1c.alloc (.cells #[.int .i64 0, .int .i64 0, .int .i64 0, .int .i64 0] 91 (0, 0))).drewN nq = w2 at *
  obtain ⟨g0, g1, g2, g3, g4, g5⟩ := cl6 HG
  obtain ⟨f0, f1⟩ := cl2 HF
  obtain ⟨p0, p1, p2, p3, p4, p5, p6, p7⟩ := cl8 HP
  obtain ⟨l0, l1, l2, l3, l4, l5, l6, l7⟩ := cl8 HL
  go_wp2
  rw [rounds_succ]
  go_wp2
  (try simp only [Exit.inBlock, Exit.then])
  refine bodyPost_ret (results_tmp rfl _ _ _) rfl ?_
  exact ⟨rfl, HB⟩

end Go.Proofs.Ytefinjjcbpdljaa.PB
