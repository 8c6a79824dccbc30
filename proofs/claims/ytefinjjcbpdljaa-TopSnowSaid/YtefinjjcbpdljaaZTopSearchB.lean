-- Written by a program of this session (wip/top/gen.py). Not trusted: Lean checks it.
import Derived.Test.YtefinjjcbpdljaaZPPxD
import Derived.Test.YtefinjjcbpdljaaZTopStart
import Derived.Test.YtefinjjcbpdljaaZTopSet
import Derived.Test.YtefinjjcbpdljaaZTopShort
import Derived.LoopN
import Derived.Lib.LazyBuf
namespace Go.Proofs.Ytefinjjcbpdljaa.PB
open Go.RowKit Go.Proofs.YtefinjjcbpdljaaW.PrintWords Go.Proofs.YtefinjjcbpdljaaW.PrintLast Go.Proofs.YtefinjjcbpdljaaW.PrintMore
attribute [local go_sem] max2_int min2_int max_two min_two max_three min_three max_four min_four   -- for this text's walks alone
set_option linter.unusedVariables false
set_option linter.unusedSimpArgs false

set_option maxHeartbeats 8000000 in
set_option maxRecDepth 100000 in
theorem search_b (g gl gw gf gp gb cb : Nat) (w0 w : World) (hB : Below w0.heap.size w0 w) (hg : w0.heap.size ≤ g) (hgf : w0.heap.size ≤ gf) (hgp : w0.heap.size ≤ gp) (HG : w.heap[g]? = some (.cells #[.slice (some ⟨gl, 0, none⟩) 2 2, .slice (some ⟨gw, 0, none⟩) 2 2, .slice (some ⟨gf, 0, none⟩) 2 2, .slice (some ⟨gp, 0, none⟩) 2 2, .slice (some ⟨gb, 0, none⟩) 2 cb, .int .i64 20] 75 (0, 0))) (HF : w.heap[gf]? = some (.cells #[.int .i64 0, .int .i64 10] 3 (0, 0))) (HP : w.heap[gp]? = some (.cells #[.int .i64 2, .int .i64 1, .int .i64 0, .int .i64 10, .int .i64 0, .int .i64 0, .int .i64 0, .int .i64 0] 91 (0, 0))) (HL : w.heap[gl]? = some (.cells #[.int .i64 1, .int .i64 10, .bool false, .slice none 0 0, .int .i64 2, .int .i64 20, .bool false, .slice none 0 0] 45 (0, 0))) (HW : w.heap[gw]? = some (.cells #[.bool false, .bool false] 4 (0, 0))) (ab : Array Value) (Hb : w.heap[gb]? = some (.cells ab 91 (0, 0))) (hbp : gb ≠ gp) : Calls Try.prog 36 #[.pointer (some ⟨g, 0, none⟩), .int .i64 1, .int .i64 10] w fun e w' => e = .returned (.tuple #[]) ∧ w'.heap[g]? = some (.cells #[.slice (some ⟨gl, 0, none⟩) 2 2, .slice (some ⟨gw, 0, none⟩) 2 2, .slice (some ⟨gf, 0, none⟩) 2 2, .slice (some ⟨gp, 0, none⟩) 2 2, .slice (some ⟨gb, 0, none⟩) 2 cb, .int .i64 20] 75 (0, 0)) ∧ w'.heap[gf]? = some (.cells #[.int .i64 0, .int .i64 10] 3 (0, 0)) ∧ w'.heap[gp]? = some (.cells #[.int .i64 2, .int .i64 1, .int .i64 0, .int .i64 10, .int .i64 0, .int .i64 0, .int .i64 0, .int .i64 0] 91 (0, 0)) ∧ w'.heap[gl]? = some (.cells #[.int .i64 1, .int .i64 10, .bool false, .slice none 0 0, .int .i64 2, .int .i64 20, .bool false, .slice none 0 0] 45 (0, 0)) ∧ w'.heap[gw]? = some (.cells #[.bool false, .bool false] 4 (0, 0)) ∧ w'.heap[gb]? = some (.cells ab 91 (0, 0)) ∧ Keeps g gf gp w w' ∧ Below w0.heap.size w0 w' := by
  have hK := Keeps.refl g gf gp w
  obtain ⟨g0, g1, g2, g3, g4, g5⟩ := cl6 HG
  obtain ⟨f0, f1⟩ := cl2 HF
  have hnn : ∀ (w : World), (binOp .neq 47 (.slice (some ⟨gb, 0, none⟩) 2 cb) (.slice none 0 0)).run Try.prog w = .ok (.bool true) w := fun w => run_neq_slice_nil w 47 91 (some ⟨gb, 0, none⟩) 2 cb Try.underlying47
  have hw0 : wrap64 0 = 0 := by unfold wrap64; omega
  have hw1 : wrap64 1 = 1 := by unfold wrap64; omega
  have hw2 : wrap64 2 = 2 := by unfold wrap64; omega
  have hw3 : wrap64 3 = 3 := by unfold wrap64; omega
  have hw10 : wrap64 10 = 10 := by unfold wrap64; omega
  have hw20 : wrap64 20 = 20 := by unfold wrap64; omega
  have hw30 : wrap64 30 = 30 := by unfold wrap64; omega
  have hw40 : wrap64 40 = 40 := by unfold wrap64; omega
  go_enter Try.func36, Try.ntmps36
  go_wp2
  refine wp_loop_rounds 3 ?_
  obtain ⟨l0, l1, l2, l3, l4, l5, l6, l7⟩ := cl8 HL
  rw [rounds_succ]
  obtain ⟨-, yg1, -, yg3, -, -⟩ := cl6 (blk_alloc HG (.cells #[.int .i64 1, .int .i64 10, .bool false, .slice none 0 0] 45 (0, 0)))
  obtain ⟨y0, y1, y2, y3, y4, y5, y6, y7⟩ := cl8 (blk_alloc HP (.cells #[.int .i64 1, .int .i64 10, .bool false, .slice none 0 0] 45 (0, 0)))
  go_wp2
  clear g0 g1 g2 g3 g4 g5 f0 f1
  clear yg1 yg3 y0 y1 y2 y3 y4 y5 y6 y7 l0 l1 l2 l3 l4 l5 l6 l7
  obtain ⟨w1, hN⟩ : ∃ N, N = w.alloc (.cells #[.int .i64 1, .int .i64 10, .bool false, .slice none 0 0] 45 (0, 0)) := ⟨_, rfl⟩
  rw [← hN]
  have HX := an_ hN
  replace HG := al_ hN HG
  replace HF := al_ hN HF
  replace HP := al_ hN HP
  replace HL := al_ hN HL
  replace HW := al_ hN HW
  replace Hb := al_ hN Hb
  replace hB := ab_ hN hB
  replace hK := ak_ hN hK
  clear hN
  generalize w.heap.size = gx1 at HX ⊢
  obtain ⟨g0, g1, g2, g3, g4, g5⟩ := cl6 HG
  obtain ⟨f0, f1⟩ := cl2 HF
  obtain ⟨x0, x1, x2, x3⟩ := cl4 HX
  clear HX x0 x1 x2 x3
  obtain ⟨l0, l1, l2, l3, l4, l5, l6, l7⟩ := cl8 HL
  rw [rounds_succ]
  obtain ⟨-, yg1, -, yg3, -, -⟩ := cl6 (blk_alloc HG (.cells #[.int .i64 2, .int .i64 20, .bool false, .slice none 0 0] 45 (0, 0)))
  obtain ⟨y0, y1, y2, y3, y4, y5, y6, y7⟩ := cl8 (blk_alloc HP (.cells #[.int .i64 2, .int .i64 20, .bool false, .slice none 0 0] 45 (0, 0)))
  go_wp2
  clear g0 g1 g2 g3 g4 g5 f0 f1
  clear yg1 yg3 y0 y1 y2 y3 y4 y5 y6 y7 l0 l1 l2 l3 l4 l5 l6 l7
  obtain ⟨w2, hN⟩ : ∃ N, N = w1.alloc (.cells #[.int .i64 2, .int .i64 20, .bool false, .slice none 0 0] 45 (0, 0)) := ⟨_, rfl⟩
  rw [← hN]
  have HX := an_ hN
  replace HG := al_ hN HG
  replace HF := al_ hN HF
  replace HP := al_ hN HP
  replace HL := al_ hN HL
  replace HW := al_ hN HW
  replace Hb := al_ hN Hb
  replace hB := ab_ hN hB
  replace hK := ak_ hN hK
  clear hN
  generalize w1.heap.size = gx2 at HX ⊢
  obtain ⟨g0, g1, g2, g3, g4, g5⟩ := cl6 HG
  obtain ⟨f0, f1⟩ := cl2 HF
  obtain ⟨x0, x1, x2, x3⟩ := cl4 HX
  refine wp_loop_rounds 3 ?_
  rw [rounds_succ]
  go_wp2
  refine start_ (n := 13) (S := fun w' => w'.cell? ⟨g, 2, none⟩ = some (.slice (some ⟨gf, 0, none⟩) 2 2) ∧ w'.cell? ⟨gf, 0, none⟩ = some (.int .i64 0)) (ds := []) #[false, false, false, false, false, false, false, false, false, false, false, false, false] (by kernel_rfl) rfl rfl ⟨g2, f0⟩ (fun hHeld => ?_)
  rw [dh_ w2] at HG HF HP HL HW Hb HX
  replace hB := below_drew1 hB
  replace hK := hK.drew
  clear g0 g1 g2 g3 g4 g5 f0 f1 x0 x1 x2 x3
  generalize w2.drew = w3 at HG HF HP HL HW Hb HX hB hK hHeld ⊢
  obtain ⟨g0, g1, g2, g3, g4, g5⟩ := cl6 HG
  obtain ⟨f0, f1⟩ := cl2 HF
  obtain ⟨x0, x1, x2, x3⟩ := cl4 HX
  refine pu_ (v := ?_) (a' := ?_) 0 (some 78) rfl rfl (by kernel_rfl) (fun _ _ _ h => h) (.inl ⟨by rfl, ?_⟩) ?_ ?_
  rotate_left
  · intro
    go_simp
    with_reducible rfl
  rotate_left
  · simp only [Act.put, zA, zB, zC, i64_w]
    rfl
  refine pu_ (v := ?_) (a' := ?_) 1 (some 79) rfl rfl (by kernel_rfl) (fun _ _ _ h => h) (.inl ⟨by rfl, ?_⟩) ?_ ?_
  rotate_left
  · intro
    go_simp
    with_reducible rfl
  rotate_left
  · simp only [Act.put, zA, zB, zC, i64_w]
    rfl
  refine pu_ (v := ?_) (a' := ?_) 2 (some 80) rfl rfl (by kernel_rfl) (fun _ _ _ h => h) (.inl ⟨by rfl, ?_⟩) ?_ ?_
  rotate_left
  · intro
    go_simp
    with_reducible rfl
  rotate_left
  · simp only [Act.put, zA, zB, zC, i64_w]
    rfl
  refine pu_ (v := ?_) (a' := ?_) 4 (some 82) rfl rfl (by kernel_rfl) (fun _ _ _ h => h) (.inl ⟨by rfl, ?_⟩) ?_ ?_
  rotate_left
  · intro
    go_simp
    with_reducible rfl
  rotate_left
  · simp only [Act.put, zA, zB, zC, i64_w]
    rfl
  refine pu_ (v := ?_) (a' := ?_) 7 (some 85) rfl rfl (by kernel_rfl) (fun _ _ _ h => h) (.inl ⟨by rfl, ?_⟩) ?_ ?_
  rotate_left
  · intro
    go_simp
    with_reducible rfl
  rotate_left
  · simp only [Act.put, zA, zB, zC, i64_w]
    rfl
  refine pu_ (v := ?_) (a' := ?_) 8 (some 86) rfl rfl (by kernel_rfl) (fun _ _ _ h => h) (.inl ⟨by rfl, ?_⟩) ?_ ?_
  rotate_left
  · intro
    go_simp
    with_reducible rfl
  rotate_left
  · simp only [Act.put, zA, zB, zC, i64_w]
    rfl
  refine pu_ (v := ?_) (a' := ?_) 9 (some 87) rfl rfl (by kernel_rfl) (fun _ _ _ h => h) (.inl ⟨by rfl, ?_⟩) ?_ ?_
  rotate_left
  · intro
    go_simp
    with_reducible rfl
  rotate_left
  · simp only [Act.put, zA, zB, zC, i64_w]
    rfl
  refine tk_ (v := ?_) (a' := ?_) 3 (some 81) rfl rfl (by kernel_rfl) (fun _ _ _ h => h) hHeld (.inl ⟨by rfl, ?_⟩) ?_ ?_
  rotate_left
  · rintro w' ⟨s0, s1⟩
    go_simp
    with_reducible rfl
  rotate_left
  · simp only [Act.put, zA, zB, zC, i64_w]
    rfl
  refine pu_ (v := ?_) (a' := ?_) 5 (some 83) rfl rfl (by kernel_rfl) (fun _ _ _ h => h) (.inl ⟨by rfl, ?_⟩) ?_ ?_
  rotate_left
  · intro
    go_simp
    with_reducible rfl
  rotate_left
  · simp only [Act.put, zA, zB, zC, i64_w]
    rfl
  refine tk_ (v := ?_) (a' := ?_) 6 (some 84) rfl rfl (by kernel_rfl) (fun _ _ _ h => h) hHeld (.inl ⟨by rfl, ?_⟩) ?_ ?_
  rotate_left
  · rintro w' ⟨s0, s1⟩
    go_simp
    with_reducible rfl
  rotate_left
  · simp only [Act.put, zA, zB, zC, i64_w]
    rfl
  refine one_ (i := 10) (N := some 88) #[true, true, true, true, true, true, true, true, true, true, true, false, false] rfl rfl (by kernel_rfl) (by decide) (fun K hK => ?_)
  refine goes_ Try.func45 (by kernel_rfl) rfl #[.pointer (some ⟨g, 0, none⟩), .int .i64 1, .int .i64 0] (by rfl) rfl rfl (by simp only [List.map_toArray, List.map_cons, List.map_nil]; rfl) ?_
  with_reducible refine (start_2_0 g gl gw gf gp (.slice (some ⟨gb, 0, none⟩) 2 cb) 20 0 10 _ HG HF HP HL).mono ?_
  rintro e w4 ⟨rfl, hb⟩
  refine ⟨_, rfl, ?_⟩
  refine hK.out _ _ ⟨((blk_cell (blk_below HG hb) 2).trans rfl), ((blk_cell (blk_below HF hb) 0).trans rfl)⟩ (fun hHeld => ?_)
  clear hK K
  refine norm_ (a' := ?_) ?_ ?_
  rotate_left
  · show Act.put _ (some 88) _ = _
    simp only [Act.put, List.setIfInBounds_toArray, List.set_cons_zero, List.set_cons_succ, i64_w, i32_w]
    rfl
  refine pu_ (v := ?_) (a' := ?_) 11 (some 9) rfl rfl (by kernel_rfl) (fun _ _ _ h => h) (.inl ⟨by rfl, ?_⟩) ?_ ?_
  rotate_left
  · intro
    go_simp
    with_reducible rfl
  rotate_left
  · simp only [Act.put, zA, zB, zC, i64_w]
    rfl
  refine pu_ (v := ?_) (a' := ?_) 12 (some 10) rfl rfl (by kernel_rfl) (fun _ _ _ h => h) (.inl ⟨by rfl, ?_⟩) ?_ ?_
  rotate_left
  · intro
    go_simp
    with_reducible rfl
  rotate_left
  · simp only [Act.put, zA, zB, zC, i64_w]
    rfl
  refine done_ (by kernel_rfl) ?_
  
  clear g0 g1 g2 g3 g4 g5 f0 f1 x0 x1 x2 x3
  replace HG := blk_below HG hb
  replace HF := blk_below HF hb
  replace HP := blk_below HP hb
  replace HL := blk_below HL hb
  replace HW := blk_below HW hb
  replace Hb := blk_below Hb hb
  replace HX := blk_below HX hb
  replace hB := below_then hB hB.size hb
  replace hK := hK.below hb
  clear hb
  obtain ⟨g0, g1, g2, g3, g4, g5⟩ := cl6 HG
  obtain ⟨f0, f1⟩ := cl2 HF
  obtain ⟨x0, x1, x2, x3⟩ := cl4 HX
  go_wp2
  refine start_ (n := 22) (S := fun w' => w'.cell? ⟨g, 3, none⟩ = some (.slice (some ⟨gp, 0, none⟩) 2 2) ∧ w'.cell? ⟨g, 2, none⟩ = some (.slice (some ⟨gf, 0, none⟩) 2 2) ∧ w'.cell? ⟨gx2, 0, none⟩ = some (.int .i64 2)) (ds := [19, 21]) #[false, false, false, false, false, false, false, false, false, false, false, false, false, false, false, false, false, false, false, false, false, false] (by kernel_rfl) rfl rfl ⟨g3, g2, x0⟩ (fun hHeld => ?_)
  rw [dh_ w4] at HG HF HP HL HW Hb HX
  replace hB := below_drew1 hB
  replace hK := hK.drew
  clear g0 g1 g2 g3 g4 g5 f0 f1 x0 x1 x2 x3
  generalize w4.drew = w5 at HG HF HP HL HW Hb HX hB hK hHeld ⊢
  obtain ⟨g0, g1, g2, g3, g4, g5⟩ := cl6 HG
  obtain ⟨f0, f1⟩ := cl2 HF
  obtain ⟨x0, x1, x2, x3⟩ := cl4 HX
  obtain ⟨p0, p1, p2, p3, p4, p5, p6, p7⟩ := cl8 HP
  have fz0 := blk_frozen HP 4
  have fz1 := blk_frozen HP 5
  have fz2 := blk_frozen HP 6
  have fz3 := blk_frozen HP 7
  have ff := blk_frozen HF 0
  refine pu_ (v := ?_) (a' := ?_) 0 (some 93) rfl rfl (by kernel_rfl) (fun _ _ _ h => h) (.inl ⟨by rfl, ?_⟩) ?_ ?_
  rotate_left
  · intro
    go_simp
    with_reducible rfl
  rotate_left
  · simp only [Act.put, zA, zB, zC, i64_w]
    rfl
  refine pu_ (v := ?_) (a' := ?_) 1 (some 94) rfl rfl (by kernel_rfl) (fun _ _ _ h => h) (.inl ⟨by rfl, ?_⟩) ?_ ?_
  rotate_left
  · intro
    go_simp
    with_reducible rfl
  rotate_left
  · simp only [Act.put, zA, zB, zC, i64_w]
    rfl
  refine pu_ (v := ?_) (a' := ?_) 2 (some 95) rfl rfl (by kernel_rfl) (fun _ _ _ h => h) (.inl ⟨by rfl, ?_⟩) ?_ ?_
  rotate_left
  · intro
    go_simp
    with_reducible rfl
  rotate_left
  · simp only [Act.put, zA, zB, zC, i64_w]
    rfl
  refine pu_ (v := ?_) (a' := ?_) 4 (some 97) rfl rfl (by kernel_rfl) (fun _ _ _ h => h) (.inl ⟨by rfl, ?_⟩) ?_ ?_
  rotate_left
  · intro
    go_simp
    with_reducible rfl
  rotate_left
  · simp only [Act.put, zA, zB, zC, i64_w]
    rfl
  refine pu_ (v := ?_) (a' := ?_) 5 (some 98) rfl rfl (by kernel_rfl) (fun _ _ _ h => h) (.inl ⟨by rfl, ?_⟩) ?_ ?_
  rotate_left
  · intro
    go_simp
    with_reducible rfl
  rotate_left
  · simp only [Act.put, zA, zB, zC, i64_w]
    rfl
  refine pu_ (v := ?_) (a' := ?_) 6 (some 99) rfl rfl (by kernel_rfl) (fun _ _ _ h => h) (.inl ⟨by rfl, ?_⟩) ?_ ?_
  rotate_left
  · intro
    go_simp
    with_reducible rfl
  rotate_left
  · simp only [Act.put, zA, zB, zC, i64_w]
    rfl
  refine pu_ (v := ?_) (a' := ?_) 7 (some 100) rfl rfl (by kernel_rfl) (fun _ _ _ h => h) (.inl ⟨by rfl, ?_⟩) ?_ ?_
  rotate_left
  · intro
    go_simp
    with_reducible rfl
  rotate_left
  · simp only [Act.put, zA, zB, zC, i64_w]
    rfl
  refine pu_ (v := ?_) (a' := ?_) 9 (some 102) rfl rfl (by kernel_rfl) (fun _ _ _ h => h) (.inl ⟨by rfl, ?_⟩) ?_ ?_
  rotate_left
  · intro
    go_simp
    with_reducible rfl
  rotate_left
  · simp only [Act.put, zA, zB, zC, i64_w]
    rfl
  refine pu_ (v := ?_) (a' := ?_) 10 (some 103) rfl rfl (by kernel_rfl) (fun _ _ _ h => h) (.inl ⟨by rfl, ?_⟩) ?_ ?_
  rotate_left
  · intro
    go_simp
    with_reducible rfl
  rotate_left
  · simp only [Act.put, zA, zB, zC, i64_w]
    rfl
  refine pu_ (v := ?_) (a' := ?_) 11 (some 104) rfl rfl (by kernel_rfl) (fun _ _ _ h => h) (.inl ⟨by rfl, ?_⟩) ?_ ?_
  rotate_left
  · intro
    go_simp
    with_reducible rfl
  rotate_left
  · simp only [Act.put, zA, zB, zC, i64_w]
    rfl
  refine pu_ (v := ?_) (a' := ?_) 12 (some 105) rfl rfl (by kernel_rfl) (fun _ _ _ h => h) (.inl ⟨by rfl, ?_⟩) ?_ ?_
  rotate_left
  · intro
    go_simp
    with_reducible rfl
  rotate_left
  · simp only [Act.put, zA, zB, zC, i64_w]
    rfl
  refine pu_ (v := ?_) (a' := ?_) 14 (some 107) rfl rfl (by kernel_rfl) (fun _ _ _ h => h) (.inl ⟨by rfl, ?_⟩) ?_ ?_
  rotate_left
  · intro
    go_simp
    with_reducible rfl
  rotate_left
  · simp only [Act.put, zA, zB, zC, i64_w]
    rfl
  refine pu_ (v := ?_) (a' := ?_) 15 (some 108) rfl rfl (by kernel_rfl) (fun _ _ _ h => h) (.inl ⟨by rfl, ?_⟩) ?_ ?_
  rotate_left
  · intro
    go_simp
    with_reducible rfl
  rotate_left
  · simp only [Act.put, zA, zB, zC, i64_w]
    rfl
  refine pu_ (v := ?_) (a' := ?_) 17 (some 110) rfl rfl (by kernel_rfl) (fun _ _ _ h => h) (.inl ⟨by rfl, ?_⟩) ?_ ?_
  rotate_left
  · intro
    go_simp
    with_reducible rfl
  rotate_left
  · simp only [Act.put, zA, zB, zC, i64_w]
    rfl
  refine tk_ (v := ?_) (a' := ?_) 3 (some 96) rfl rfl (by kernel_rfl) (fun _ _ _ h => h) hHeld (.inl ⟨by rfl, ?_⟩) ?_ ?_
  rotate_left
  · rintro w' ⟨s0, s1, s2⟩
    go_simp
    with_reducible rfl
  rotate_left
  · simp only [Act.put, zA, zB, zC, i64_w]
    rfl
  refine tk_ (v := ?_) (a' := ?_) 8 (some 101) rfl rfl (by kernel_rfl) (fun _ _ _ h => h) hHeld (.inl ⟨by rfl, ?_⟩) ?_ ?_
  rotate_left
  · rintro w' ⟨s0, s1, s2⟩
    go_simp
    with_reducible rfl
  rotate_left
  · simp only [Act.put, zA, zB, zC, i64_w]
    rfl
  refine tk_ (v := ?_) (a' := ?_) 13 (some 106) rfl rfl (by kernel_rfl) (fun _ _ _ h => h) hHeld (.inl ⟨by rfl, ?_⟩) ?_ ?_
  rotate_left
  · rintro w' ⟨s0, s1, s2⟩
    go_simp
    with_reducible rfl
  rotate_left
  · simp only [Act.put, zA, zB, zC, i64_w]
    rfl
  refine pu_ (v := ?_) (a' := ?_) 16 (some 109) rfl rfl (by kernel_rfl) (fun _ _ _ h => h) (.inl ⟨by rfl, ?_⟩) ?_ ?_
  rotate_left
  · intro
    go_simp
    with_reducible rfl
  rotate_left
  · simp only [Act.put, zA, zB, zC, i64_w]
    rfl
  refine pu_ (v := ?_) (a' := ?_) 18 (some 111) rfl rfl (by kernel_rfl) (fun _ _ _ h => h) (.inl ⟨by rfl, ?_⟩) ?_ ?_
  rotate_left
  · intro
    go_simp
    with_reducible rfl
  rotate_left
  · simp only [Act.put, zA, zB, zC, i64_w]
    rfl
  refine last_ (i := 19) (N := none) #[true, true, true, true, true, true, true, true, true, true, true, true, true, true, true, true, true, true, true, true, false, false] rfl rfl (by kernel_rfl) (by decide) (fun K hK => ?_)
  refine skip_ (w1 := ?_) (by rfl) rfl ?_ ?_
  rotate_left
  · go_simp
    rfl
  refine hK.out _ _ ?_
  clear hK K
  refine pu_ (v := ?_) (a' := ?_) 20 (some 112) rfl rfl (by kernel_rfl) (fun _ _ _ h => h) (.inl ⟨by rfl, ?_⟩) ?_ ?_
  rotate_left
  · intro
    go_simp
    with_reducible rfl
  rotate_left
  · simp only [Act.put, zA, zB, zC, i64_w]
    rfl
  refine last_ (i := 21) (N := none) #[true, true, true, true, true, true, true, true, true, true, true, true, true, true, true, true, true, true, true, true, true, true] rfl rfl (by kernel_rfl) (by decide) (fun K hK => ?_)
  have mHF := (blk_far (p := ⟨gp, 7, none⟩) (blk_far (p := ⟨gp, 6, none⟩) (blk_far (p := ⟨gp, 5, none⟩) (blk_far (p := ⟨gp, 4, none⟩) HF (blk_ne HF HP (by decide)) (.int .i64 1)) (blk_ne HF HP (by decide)) (.int .i64 2)) (blk_ne HF HP (by decide)) (.int .i64 0)) (blk_ne HF HP (by decide)) (.int .i64 20))
  have mf := (blk_cell mHF 0).trans (show _ = some _ from rfl)
  have mz := blk_frozen mHF 0
  refine skip_ (w1 := ?_) (by rfl) rfl ?_ ?_
  rotate_left
  · go_simp
    rfl
  refine hK.out _ _ ?_
  clear hK K
  refine done_ (by kernel_rfl) ?_
  
  clear g0 g1 g2 g3 g4 g5 f0 f1 x0 x1 x2 x3
  clear mHF mf mz ff p0 p1 p2 p3 p4 p5 p6 p7 fz0 fz1 fz2 fz3
  obtain ⟨w6, hN⟩ : ∃ N, N = World.setCell (World.setCell (World.setCell (World.setCell (World.setCell w5 ⟨gp, 4, none⟩ (.int .i64 1)) ⟨gp, 5, none⟩ (.int .i64 2)) ⟨gp, 6, none⟩ (.int .i64 0)) ⟨gp, 7, none⟩ (.int .i64 20)) ⟨gf, 0, none⟩ (.int .i64 20) := ⟨_, rfl⟩
  rw [← hN]
  replace HG := fz5 hN HG (blk_ne HG HP (by decide)) (blk_ne HG HF (by decide))
  replace HL := fz5 hN HL (blk_ne HL HP (by decide)) (blk_ne HL HF (by decide))
  replace HW := fz5 hN HW (blk_ne HW HP (by decide)) (blk_ne HW HF (by decide))
  replace Hb := fz5 hN Hb hbp (blk_ne Hb HF (by decide))
  replace HX := fz5 hN HX (blk_ne HX HP (by decide)) (blk_ne HX HF (by decide))
  replace hB := bz5 hN hB hgp hgf
  replace hK := kz5 hN hK
  have nPF := blk_ne HP HF (by decide)
  replace HP : w6.heap[gp]? = some (.cells #[.int .i64 2, .int .i64 1, .int .i64 0, .int .i64 10, .int .i64 1, .int .i64 2, .int .i64 0, .int .i64 20] 91 (0, 0)) := pz5 hN HP nPF rfl rfl rfl rfl
  replace HF : w6.heap[gf]? = some (.cells #[.int .i64 20, .int .i64 10] 3 (0, 0)) := qz5 hN HF nPF.symm rfl
  clear hN nPF
  obtain ⟨g0, g1, g2, g3, g4, g5⟩ := cl6 HG
  obtain ⟨f0, f1⟩ := cl2 HF
  obtain ⟨x0, x1, x2, x3⟩ := cl4 HX
  go_wp2_with (first | (go_at_call 36; refine (prune_0_20 g gl gw gf gp gb cb _ HG).mono ?_; rintro e w7 ⟨rfl, rfl⟩))
  refine start_ (n := 16) (S := fun w' => w'.cell? ⟨g, 3, none⟩ = some (.slice (some ⟨gp, 0, none⟩) 2 2) ∧ w'.cell? ⟨g, 2, none⟩ = some (.slice (some ⟨gf, 0, none⟩) 2 2)) (ds := [13, 15]) #[false, false, false, false, false, false, false, false, false, false, false, false, false, false, false, false] (by kernel_rfl) rfl rfl ⟨g3, g2⟩ (fun hHeld => ?_)
  rw [dh_ w7] at HG HF HP HL HW Hb HX
  replace hB := below_drew1 hB
  replace hK := hK.drew
  clear g0 g1 g2 g3 g4 g5 f0 f1 x0 x1 x2 x3
  generalize w7.drew = w8 at HG HF HP HL HW Hb HX hB hK hHeld ⊢
  obtain ⟨g0, g1, g2, g3, g4, g5⟩ := cl6 HG
  obtain ⟨f0, f1⟩ := cl2 HF
  obtain ⟨x0, x1, x2, x3⟩ := cl4 HX
  obtain ⟨p0, p1, p2, p3, p4, p5, p6, p7⟩ := cl8 HP
  have fz0 := blk_frozen HP 4
  have fz1 := blk_frozen HP 5
  have fz2 := blk_frozen HP 6
  have fz3 := blk_frozen HP 7
  have ff := blk_frozen HF 0
  refine pu_ (v := ?_) (a' := ?_) 0 (some 120) rfl rfl (by kernel_rfl) (fun _ _ _ h => h) (.inl ⟨by rfl, ?_⟩) ?_ ?_
  rotate_left
  · intro
    go_simp
    with_reducible rfl
  rotate_left
  · simp only [Act.put, zA, zB, zC, i64_w]
    rfl
  refine pu_ (v := ?_) (a' := ?_) 1 (some 121) rfl rfl (by kernel_rfl) (fun _ _ _ h => h) (.inl ⟨by rfl, ?_⟩) ?_ ?_
  rotate_left
  · intro
    go_simp
    with_reducible rfl
  rotate_left
  · simp only [Act.put, zA, zB, zC, i64_w]
    rfl
  refine pu_ (v := ?_) (a' := ?_) 2 (some 122) rfl rfl (by kernel_rfl) (fun _ _ _ h => h) (.inl ⟨by rfl, ?_⟩) ?_ ?_
  rotate_left
  · intro
    go_simp
    with_reducible rfl
  rotate_left
  · simp only [Act.put, zA, zB, zC, i64_w]
    rfl
  refine pu_ (v := ?_) (a' := ?_) 4 (some 124) rfl rfl (by kernel_rfl) (fun _ _ _ h => h) (.inl ⟨by rfl, ?_⟩) ?_ ?_
  rotate_left
  · intro
    go_simp
    with_reducible rfl
  rotate_left
  · simp only [Act.put, zA, zB, zC, i64_w]
    rfl
  refine pu_ (v := ?_) (a' := ?_) 5 (some 125) rfl rfl (by kernel_rfl) (fun _ _ _ h => h) (.inl ⟨by rfl, ?_⟩) ?_ ?_
  rotate_left
  · intro
    go_simp
    with_reducible rfl
  rotate_left
  · simp only [Act.put, zA, zB, zC, i64_w]
    rfl
  refine pu_ (v := ?_) (a' := ?_) 6 (some 126) rfl rfl (by kernel_rfl) (fun _ _ _ h => h) (.inl ⟨by rfl, ?_⟩) ?_ ?_
  rotate_left
  · intro
    go_simp
    with_reducible rfl
  rotate_left
  · simp only [Act.put, zA, zB, zC, i64_w]
    rfl
  refine pu_ (v := ?_) (a' := ?_) 7 (some 127) rfl rfl (by kernel_rfl) (fun _ _ _ h => h) (.inl ⟨by rfl, ?_⟩) ?_ ?_
  rotate_left
  · intro
    go_simp
    with_reducible rfl
  rotate_left
  · simp only [Act.put, zA, zB, zC, i64_w]
    rfl
  refine pu_ (v := ?_) (a' := ?_) 9 (some 129) rfl rfl (by kernel_rfl) (fun _ _ _ h => h) (.inl ⟨by rfl, ?_⟩) ?_ ?_
  rotate_left
  · intro
    go_simp
    with_reducible rfl
  rotate_left
  · simp only [Act.put, zA, zB, zC, i64_w]
    rfl
  refine pu_ (v := ?_) (a' := ?_) 10 (some 130) rfl rfl (by kernel_rfl) (fun _ _ _ h => h) (.inl ⟨by rfl, ?_⟩) ?_ ?_
  rotate_left
  · intro
    go_simp
    with_reducible rfl
  rotate_left
  · simp only [Act.put, zA, zB, zC, i64_w]
    rfl
  refine pu_ (v := ?_) (a' := ?_) 11 (some 131) rfl rfl (by kernel_rfl) (fun _ _ _ h => h) (.inl ⟨by rfl, ?_⟩) ?_ ?_
  rotate_left
  · intro
    go_simp
    with_reducible rfl
  rotate_left
  · simp only [Act.put, zA, zB, zC, i64_w]
    rfl
  refine tk_ (v := ?_) (a' := ?_) 3 (some 123) rfl rfl (by kernel_rfl) (fun _ _ _ h => h) hHeld (.inl ⟨by rfl, ?_⟩) ?_ ?_
  rotate_left
  · rintro w' ⟨s0, s1⟩
    go_simp
    with_reducible rfl
  rotate_left
  · simp only [Act.put, zA, zB, zC, i64_w]
    rfl
  refine tk_ (v := ?_) (a' := ?_) 8 (some 128) rfl rfl (by kernel_rfl) (fun _ _ _ h => h) hHeld (.inl ⟨by rfl, ?_⟩) ?_ ?_
  rotate_left
  · rintro w' ⟨s0, s1⟩
    go_simp
    with_reducible rfl
  rotate_left
  · simp only [Act.put, zA, zB, zC, i64_w]
    rfl
  refine pu_ (v := ?_) (a' := ?_) 12 (some 132) rfl rfl (by kernel_rfl) (fun _ _ _ h => h) (.inl ⟨by rfl, ?_⟩) ?_ ?_
  rotate_left
  · intro
    go_simp
    with_reducible rfl
  rotate_left
  · simp only [Act.put, zA, zB, zC, i64_w]
    rfl
  refine last_ (i := 13) (N := none) #[true, true, true, true, true, true, true, true, true, true, true, true, true, true, false, false] rfl rfl (by kernel_rfl) (by decide) (fun K hK => ?_)
  refine skip_ (w1 := ?_) (by rfl) rfl ?_ ?_
  rotate_left
  · go_simp
    rfl
  refine hK.out _ _ ?_
  clear hK K
  refine pu_ (v := ?_) (a' := ?_) 14 (some 133) rfl rfl (by kernel_rfl) (fun _ _ _ h => h) (.inl ⟨by rfl, ?_⟩) ?_ ?_
  rotate_left
  · intro
    go_simp
    with_reducible rfl
  rotate_left
  · simp only [Act.put, zA, zB, zC, i64_w]
    rfl
  refine last_ (i := 15) (N := none) #[true, true, true, true, true, true, true, true, true, true, true, true, true, true, true, true] rfl rfl (by kernel_rfl) (by decide) (fun K hK => ?_)
  have mHF := (blk_far (p := ⟨gp, 7, none⟩) (blk_far (p := ⟨gp, 6, none⟩) (blk_far (p := ⟨gp, 5, none⟩) (blk_far (p := ⟨gp, 4, none⟩) HF (blk_ne HF HP (by decide)) (.int .i64 0)) (blk_ne HF HP (by decide)) (.int .i64 0)) (blk_ne HF HP (by decide)) (.int .i64 0)) (blk_ne HF HP (by decide)) (.int .i64 0))
  have mf := (blk_cell mHF 0).trans (show _ = some _ from rfl)
  have mz := blk_frozen mHF 0
  refine skip_ (w1 := ?_) (by rfl) rfl ?_ ?_
  rotate_left
  · go_simp
    rfl
  refine hK.out _ _ ?_
  clear hK K
  refine done_ (by kernel_rfl) ?_
  
  clear g0 g1 g2 g3 g4 g5 f0 f1 x0 x1 x2 x3
  clear mHF mf mz ff p0 p1 p2 p3 p4 p5 p6 p7 fz0 fz1 fz2 fz3
  obtain ⟨w9, hN⟩ : ∃ N, N = World.setCell (World.setCell (World.setCell (World.setCell (World.setCell w8 ⟨gp, 4, none⟩ (.int .i64 0)) ⟨gp, 5, none⟩ (.int .i64 0)) ⟨gp, 6, none⟩ (.int .i64 0)) ⟨gp, 7, none⟩ (.int .i64 0)) ⟨gf, 0, none⟩ (.int .i64 0) := ⟨_, rfl⟩
  rw [← hN]
  replace HG := fz5 hN HG (blk_ne HG HP (by decide)) (blk_ne HG HF (by decide))
  replace HL := fz5 hN HL (blk_ne HL HP (by decide)) (blk_ne HL HF (by decide))
  replace HW := fz5 hN HW (blk_ne HW HP (by decide)) (blk_ne HW HF (by decide))
  replace Hb := fz5 hN Hb hbp (blk_ne Hb HF (by decide))
  replace HX := fz5 hN HX (blk_ne HX HP (by decide)) (blk_ne HX HF (by decide))
  replace hB := bz5 hN hB hgp hgf
  replace hK := kz5 hN hK
  have nPF := blk_ne HP HF (by decide)
  replace HP : w9.heap[gp]? = some (.cells #[.int .i64 2, .int .i64 1, .int .i64 0, .int .i64 10, .int .i64 0, .int .i64 0, .int .i64 0, .int .i64 0] 91 (0, 0)) := pz5 hN HP nPF rfl rfl rfl rfl
  replace HF : w9.heap[gf]? = some (.cells #[.int .i64 0, .int .i64 10] 3 (0, 0)) := qz5 hN HF nPF.symm rfl
  clear hN nPF
  obtain ⟨g0, g1, g2, g3, g4, g5⟩ := cl6 HG
  obtain ⟨f0, f1⟩ := cl2 HF
  obtain ⟨x0, x1, x2, x3⟩ := cl4 HX
  go_wp2
  rw [rounds_succ]
  go_wp2
  refine start_ (n := 13) (S := fun w' => w'.cell? ⟨g, 2, none⟩ = some (.slice (some ⟨gf, 0, none⟩) 2 2) ∧ w'.cell? ⟨gf, 1, none⟩ = some (.int .i64 10)) (ds := []) #[false, false, false, false, false, false, false, false, false, false, false, false, false] (by kernel_rfl) rfl rfl ⟨g2, f1⟩ (fun hHeld => ?_)
  rw [dh_ w9] at HG HF HP HL HW Hb HX
  replace hB := below_drew1 hB
  replace hK := hK.drew
  clear g0 g1 g2 g3 g4 g5 f0 f1 x0 x1 x2 x3
  generalize w9.drew = w10 at HG HF HP HL HW Hb HX hB hK hHeld ⊢
  obtain ⟨g0, g1, g2, g3, g4, g5⟩ := cl6 HG
  obtain ⟨f0, f1⟩ := cl2 HF
  obtain ⟨x0, x1, x2, x3⟩ := cl4 HX
  refine pu_ (v := ?_) (a' := ?_) 0 (some 78) rfl rfl (by kernel_rfl) (fun _ _ _ h => h) (.inl ⟨by rfl, ?_⟩) ?_ ?_
  rotate_left
  · intro
    go_simp
    with_reducible rfl
  rotate_left
  · simp only [Act.put, zA, zB, zC, i64_w]
    rfl
  refine pu_ (v := ?_) (a' := ?_) 1 (some 79) rfl rfl (by kernel_rfl) (fun _ _ _ h => h) (.inl ⟨by rfl, ?_⟩) ?_ ?_
  rotate_left
  · intro
    go_simp
    with_reducible rfl
  rotate_left
  · simp only [Act.put, zA, zB, zC, i64_w]
    rfl
  refine pu_ (v := ?_) (a' := ?_) 2 (some 80) rfl rfl (by kernel_rfl) (fun _ _ _ h => h) (.inl ⟨by rfl, ?_⟩) ?_ ?_
  rotate_left
  · intro
    go_simp
    with_reducible rfl
  rotate_left
  · simp only [Act.put, zA, zB, zC, i64_w]
    rfl
  refine pu_ (v := ?_) (a' := ?_) 4 (some 82) rfl rfl (by kernel_rfl) (fun _ _ _ h => h) (.inl ⟨by rfl, ?_⟩) ?_ ?_
  rotate_left
  · intro
    go_simp
    with_reducible rfl
  rotate_left
  · simp only [Act.put, zA, zB, zC, i64_w]
    rfl
  refine pu_ (v := ?_) (a' := ?_) 7 (some 85) rfl rfl (by kernel_rfl) (fun _ _ _ h => h) (.inl ⟨by rfl, ?_⟩) ?_ ?_
  rotate_left
  · intro
    go_simp
    with_reducible rfl
  rotate_left
  · simp only [Act.put, zA, zB, zC, i64_w]
    rfl
  refine pu_ (v := ?_) (a' := ?_) 8 (some 86) rfl rfl (by kernel_rfl) (fun _ _ _ h => h) (.inl ⟨by rfl, ?_⟩) ?_ ?_
  rotate_left
  · intro
    go_simp
    with_reducible rfl
  rotate_left
  · simp only [Act.put, zA, zB, zC, i64_w]
    rfl
  refine pu_ (v := ?_) (a' := ?_) 9 (some 87) rfl rfl (by kernel_rfl) (fun _ _ _ h => h) (.inl ⟨by rfl, ?_⟩) ?_ ?_
  rotate_left
  · intro
    go_simp
    with_reducible rfl
  rotate_left
  · simp only [Act.put, zA, zB, zC, i64_w]
    rfl
  refine tk_ (v := ?_) (a' := ?_) 3 (some 81) rfl rfl (by kernel_rfl) (fun _ _ _ h => h) hHeld (.inl ⟨by rfl, ?_⟩) ?_ ?_
  rotate_left
  · rintro w' ⟨s0, s1⟩
    go_simp
    with_reducible rfl
  rotate_left
  · simp only [Act.put, zA, zB, zC, i64_w]
    rfl
  refine pu_ (v := ?_) (a' := ?_) 5 (some 83) rfl rfl (by kernel_rfl) (fun _ _ _ h => h) (.inl ⟨by rfl, ?_⟩) ?_ ?_
  rotate_left
  · intro
    go_simp
    with_reducible rfl
  rotate_left
  · simp only [Act.put, zA, zB, zC, i64_w]
    rfl
  refine tk_ (v := ?_) (a' := ?_) 6 (some 84) rfl rfl (by kernel_rfl) (fun _ _ _ h => h) hHeld (.inl ⟨by rfl, ?_⟩) ?_ ?_
  rotate_left
  · rintro w' ⟨s0, s1⟩
    go_simp
    with_reducible rfl
  rotate_left
  · simp only [Act.put, zA, zB, zC, i64_w]
    rfl
  refine one_ (i := 10) (N := some 88) #[true, true, true, true, true, true, true, true, true, true, true, false, false] rfl rfl (by kernel_rfl) (by decide) (fun K hK => ?_)
  refine goes_ Try.func45 (by kernel_rfl) rfl #[.pointer (some ⟨g, 0, none⟩), .int .i64 1, .int .i64 1] (by rfl) rfl rfl (by simp only [List.map_toArray, List.map_cons, List.map_nil]; rfl) ?_
  with_reducible refine (start_2_1 g gl gw gf gp (.slice (some ⟨gb, 0, none⟩) 2 cb) 20 0 10 _ HG HF HP HL).mono ?_
  rintro e w11 ⟨rfl, hb⟩
  refine ⟨_, rfl, ?_⟩
  refine hK.out _ _ ⟨((blk_cell (blk_below HG hb) 2).trans rfl), ((blk_cell (blk_below HF hb) 1).trans rfl)⟩ (fun hHeld => ?_)
  clear hK K
  refine norm_ (a' := ?_) ?_ ?_
  rotate_left
  · show Act.put _ (some 88) _ = _
    simp only [Act.put, List.setIfInBounds_toArray, List.set_cons_zero, List.set_cons_succ, i64_w, i32_w]
    rfl
  refine pu_ (v := ?_) (a' := ?_) 11 (some 9) rfl rfl (by kernel_rfl) (fun _ _ _ h => h) (.inl ⟨by rfl, ?_⟩) ?_ ?_
  rotate_left
  · intro
    go_simp
    with_reducible rfl
  rotate_left
  · simp only [Act.put, zA, zB, zC, i64_w]
    rfl
  refine pu_ (v := ?_) (a' := ?_) 12 (some 10) rfl rfl (by kernel_rfl) (fun _ _ _ h => h) (.inl ⟨by rfl, ?_⟩) ?_ ?_
  rotate_left
  · intro
    go_simp
    with_reducible rfl
  rotate_left
  · simp only [Act.put, zA, zB, zC, i64_w]
    rfl
  refine done_ (by kernel_rfl) ?_
  
  clear g0 g1 g2 g3 g4 g5 f0 f1 x0 x1 x2 x3
  replace HG := blk_below HG hb
  replace HF := blk_below HF hb
  replace HP := blk_below HP hb
  replace HL := blk_below HL hb
  replace HW := blk_below HW hb
  replace Hb := blk_below Hb hb
  replace HX := blk_below HX hb
  replace hB := below_then hB hB.size hb
  replace hK := hK.below hb
  clear hb
  obtain ⟨g0, g1, g2, g3, g4, g5⟩ := cl6 HG
  obtain ⟨f0, f1⟩ := cl2 HF
  obtain ⟨x0, x1, x2, x3⟩ := cl4 HX
  go_wp2
  refine start_ (n := 22) (S := fun w' => w'.cell? ⟨g, 3, none⟩ = some (.slice (some ⟨gp, 0, none⟩) 2 2) ∧ w'.cell? ⟨g, 2, none⟩ = some (.slice (some ⟨gf, 0, none⟩) 2 2) ∧ w'.cell? ⟨gx2, 0, none⟩ = some (.int .i64 2)) (ds := [19, 21]) #[false, false, false, false, false, false, false, false, false, false, false, false, false, false, false, false, false, false, false, false, false, false] (by kernel_rfl) rfl rfl ⟨g3, g2, x0⟩ (fun hHeld => ?_)
  rw [dh_ w11] at HG HF HP HL HW Hb HX
  replace hB := below_drew1 hB
  replace hK := hK.drew
  clear g0 g1 g2 g3 g4 g5 f0 f1 x0 x1 x2 x3
  generalize w11.drew = w12 at HG HF HP HL HW Hb HX hB hK hHeld ⊢
  obtain ⟨g0, g1, g2, g3, g4, g5⟩ := cl6 HG
  obtain ⟨f0, f1⟩ := cl2 HF
  obtain ⟨x0, x1, x2, x3⟩ := cl4 HX
  obtain ⟨p0, p1, p2, p3, p4, p5, p6, p7⟩ := cl8 HP
  have fz0 := blk_frozen HP 4
  have fz1 := blk_frozen HP 5
  have fz2 := blk_frozen HP 6
  have fz3 := blk_frozen HP 7
  have ff := blk_frozen HF 1
  refine pu_ (v := ?_) (a' := ?_) 0 (some 93) rfl rfl (by kernel_rfl) (fun _ _ _ h => h) (.inl ⟨by rfl, ?_⟩) ?_ ?_
  rotate_left
  · intro
    go_simp
    with_reducible rfl
  rotate_left
  · simp only [Act.put, zA, zB, zC, i64_w]
    rfl
  refine pu_ (v := ?_) (a' := ?_) 1 (some 94) rfl rfl (by kernel_rfl) (fun _ _ _ h => h) (.inl ⟨by rfl, ?_⟩) ?_ ?_
  rotate_left
  · intro
    go_simp
    with_reducible rfl
  rotate_left
  · simp only [Act.put, zA, zB, zC, i64_w]
    rfl
  refine pu_ (v := ?_) (a' := ?_) 2 (some 95) rfl rfl (by kernel_rfl) (fun _ _ _ h => h) (.inl ⟨by rfl, ?_⟩) ?_ ?_
  rotate_left
  · intro
    go_simp
    with_reducible rfl
  rotate_left
  · simp only [Act.put, zA, zB, zC, i64_w]
    rfl
  refine pu_ (v := ?_) (a' := ?_) 4 (some 97) rfl rfl (by kernel_rfl) (fun _ _ _ h => h) (.inl ⟨by rfl, ?_⟩) ?_ ?_
  rotate_left
  · intro
    go_simp
    with_reducible rfl
  rotate_left
  · simp only [Act.put, zA, zB, zC, i64_w]
    rfl
  refine pu_ (v := ?_) (a' := ?_) 5 (some 98) rfl rfl (by kernel_rfl) (fun _ _ _ h => h) (.inl ⟨by rfl, ?_⟩) ?_ ?_
  rotate_left
  · intro
    go_simp
    with_reducible rfl
  rotate_left
  · simp only [Act.put, zA, zB, zC, i64_w]
    rfl
  refine pu_ (v := ?_) (a' := ?_) 6 (some 99) rfl rfl (by kernel_rfl) (fun _ _ _ h => h) (.inl ⟨by rfl, ?_⟩) ?_ ?_
  rotate_left
  · intro
    go_simp
    with_reducible rfl
  rotate_left
  · simp only [Act.put, zA, zB, zC, i64_w]
    rfl
  refine pu_ (v := ?_) (a' := ?_) 7 (some 100) rfl rfl (by kernel_rfl) (fun _ _ _ h => h) (.inl ⟨by rfl, ?_⟩) ?_ ?_
  rotate_left
  · intro
    go_simp
    with_reducible rfl
  rotate_left
  · simp only [Act.put, zA, zB, zC, i64_w]
    rfl
  refine pu_ (v := ?_) (a' := ?_) 9 (some 102) rfl rfl (by kernel_rfl) (fun _ _ _ h => h) (.inl ⟨by rfl, ?_⟩) ?_ ?_
  rotate_left
  · intro
    go_simp
    with_reducible rfl
  rotate_left
  · simp only [Act.put, zA, zB, zC, i64_w]
    rfl
  refine pu_ (v := ?_) (a' := ?_) 10 (some 103) rfl rfl (by kernel_rfl) (fun _ _ _ h => h) (.inl ⟨by rfl, ?_⟩) ?_ ?_
  rotate_left
  · intro
    go_simp
    with_reducible rfl
  rotate_left
  · simp only [Act.put, zA, zB, zC, i64_w]
    rfl
  refine pu_ (v := ?_) (a' := ?_) 11 (some 104) rfl rfl (by kernel_rfl) (fun _ _ _ h => h) (.inl ⟨by rfl, ?_⟩) ?_ ?_
  rotate_left
  · intro
    go_simp
    with_reducible rfl
  rotate_left
  · simp only [Act.put, zA, zB, zC, i64_w]
    rfl
  refine pu_ (v := ?_) (a' := ?_) 12 (some 105) rfl rfl (by kernel_rfl) (fun _ _ _ h => h) (.inl ⟨by rfl, ?_⟩) ?_ ?_
  rotate_left
  · intro
    go_simp
    with_reducible rfl
  rotate_left
  · simp only [Act.put, zA, zB, zC, i64_w]
    rfl
  refine pu_ (v := ?_) (a' := ?_) 14 (some 107) rfl rfl (by kernel_rfl) (fun _ _ _ h => h) (.inl ⟨by rfl, ?_⟩) ?_ ?_
  rotate_left
  · intro
    go_simp
    with_reducible rfl
  rotate_left
  · simp only [Act.put, zA, zB, zC, i64_w]
    rfl
  refine pu_ (v := ?_) (a' := ?_) 15 (some 108) rfl rfl (by kernel_rfl) (fun _ _ _ h => h) (.inl ⟨by rfl, ?_⟩) ?_ ?_
  rotate_left
  · intro
    go_simp
    with_reducible rfl
  rotate_left
  · simp only [Act.put, zA, zB, zC, i64_w]
    rfl
  refine pu_ (v := ?_) (a' := ?_) 17 (some 110) rfl rfl (by kernel_rfl) (fun _ _ _ h => h) (.inl ⟨by rfl, ?_⟩) ?_ ?_
  rotate_left
  · intro
    go_simp
    with_reducible rfl
  rotate_left
  · simp only [Act.put, zA, zB, zC, i64_w]
    rfl
  refine tk_ (v := ?_) (a' := ?_) 3 (some 96) rfl rfl (by kernel_rfl) (fun _ _ _ h => h) hHeld (.inl ⟨by rfl, ?_⟩) ?_ ?_
  rotate_left
  · rintro w' ⟨s0, s1, s2⟩
    go_simp
    with_reducible rfl
  rotate_left
  · simp only [Act.put, zA, zB, zC, i64_w]
    rfl
  refine tk_ (v := ?_) (a' := ?_) 8 (some 101) rfl rfl (by kernel_rfl) (fun _ _ _ h => h) hHeld (.inl ⟨by rfl, ?_⟩) ?_ ?_
  rotate_left
  · rintro w' ⟨s0, s1, s2⟩
    go_simp
    with_reducible rfl
  rotate_left
  · simp only [Act.put, zA, zB, zC, i64_w]
    rfl
  refine tk_ (v := ?_) (a' := ?_) 13 (some 106) rfl rfl (by kernel_rfl) (fun _ _ _ h => h) hHeld (.inl ⟨by rfl, ?_⟩) ?_ ?_
  rotate_left
  · rintro w' ⟨s0, s1, s2⟩
    go_simp
    with_reducible rfl
  rotate_left
  · simp only [Act.put, zA, zB, zC, i64_w]
    rfl
  refine pu_ (v := ?_) (a' := ?_) 16 (some 109) rfl rfl (by kernel_rfl) (fun _ _ _ h => h) (.inl ⟨by rfl, ?_⟩) ?_ ?_
  rotate_left
  · intro
    go_simp
    with_reducible rfl
  rotate_left
  · simp only [Act.put, zA, zB, zC, i64_w]
    rfl
  refine pu_ (v := ?_) (a' := ?_) 18 (some 111) rfl rfl (by kernel_rfl) (fun _ _ _ h => h) (.inl ⟨by rfl, ?_⟩) ?_ ?_
  rotate_left
  · intro
    go_simp
    with_reducible rfl
  rotate_left
  · simp only [Act.put, zA, zB, zC, i64_w]
    rfl
  refine last_ (i := 19) (N := none) #[true, true, true, true, true, true, true, true, true, true, true, true, true, true, true, true, true, true, true, true, false, false] rfl rfl (by kernel_rfl) (by decide) (fun K hK => ?_)
  refine skip_ (w1 := ?_) (by rfl) rfl ?_ ?_
  rotate_left
  · go_simp
    rfl
  refine hK.out _ _ ?_
  clear hK K
  refine pu_ (v := ?_) (a' := ?_) 20 (some 112) rfl rfl (by kernel_rfl) (fun _ _ _ h => h) (.inl ⟨by rfl, ?_⟩) ?_ ?_
  rotate_left
  · intro
    go_simp
    with_reducible rfl
  rotate_left
  · simp only [Act.put, zA, zB, zC, i64_w]
    rfl
  refine last_ (i := 21) (N := none) #[true, true, true, true, true, true, true, true, true, true, true, true, true, true, true, true, true, true, true, true, true, true] rfl rfl (by kernel_rfl) (by decide) (fun K hK => ?_)
  have mHF := (blk_far (p := ⟨gp, 7, none⟩) (blk_far (p := ⟨gp, 6, none⟩) (blk_far (p := ⟨gp, 5, none⟩) (blk_far (p := ⟨gp, 4, none⟩) HF (blk_ne HF HP (by decide)) (.int .i64 2)) (blk_ne HF HP (by decide)) (.int .i64 2)) (blk_ne HF HP (by decide)) (.int .i64 10)) (blk_ne HF HP (by decide)) (.int .i64 30))
  have mf := (blk_cell mHF 1).trans (show _ = some _ from rfl)
  have mz := blk_frozen mHF 1
  refine skip_ (w1 := ?_) (by rfl) rfl ?_ ?_
  rotate_left
  · go_simp
    rfl
  refine hK.out _ _ ?_
  clear hK K
  refine done_ (by kernel_rfl) ?_
  
  clear g0 g1 g2 g3 g4 g5 f0 f1 x0 x1 x2 x3
  clear mHF mf mz ff p0 p1 p2 p3 p4 p5 p6 p7 fz0 fz1 fz2 fz3
  obtain ⟨w13, hN⟩ : ∃ N, N = World.setCell (World.setCell (World.setCell (World.setCell (World.setCell w12 ⟨gp, 4, none⟩ (.int .i64 2)) ⟨gp, 5, none⟩ (.int .i64 2)) ⟨gp, 6, none⟩ (.int .i64 10)) ⟨gp, 7, none⟩ (.int .i64 30)) ⟨gf, 1, none⟩ (.int .i64 30) := ⟨_, rfl⟩
  rw [← hN]
  replace HG := fz5 hN HG (blk_ne HG HP (by decide)) (blk_ne HG HF (by decide))
  replace HL := fz5 hN HL (blk_ne HL HP (by decide)) (blk_ne HL HF (by decide))
  replace HW := fz5 hN HW (blk_ne HW HP (by decide)) (blk_ne HW HF (by decide))
  replace Hb := fz5 hN Hb hbp (blk_ne Hb HF (by decide))
  replace HX := fz5 hN HX (blk_ne HX HP (by decide)) (blk_ne HX HF (by decide))
  replace hB := bz5 hN hB hgp hgf
  replace hK := kz5 hN hK
  have nPF := blk_ne HP HF (by decide)
  replace HP : w13.heap[gp]? = some (.cells #[.int .i64 2, .int .i64 1, .int .i64 0, .int .i64 10, .int .i64 2, .int .i64 2, .int .i64 10, .int .i64 30] 91 (0, 0)) := pz5 hN HP nPF rfl rfl rfl rfl
  replace HF : w13.heap[gf]? = some (.cells #[.int .i64 0, .int .i64 30] 3 (0, 0)) := qz5 hN HF nPF.symm rfl
  clear hN nPF
  obtain ⟨g0, g1, g2, g3, g4, g5⟩ := cl6 HG
  obtain ⟨f0, f1⟩ := cl2 HF
  obtain ⟨x0, x1, x2, x3⟩ := cl4 HX
  go_wp2_with (first | (go_at_call 36; refine (prune_0_30 g gl gw gf gp gb cb _ HG).mono ?_; rintro e w14 ⟨rfl, rfl⟩))
  refine start_ (n := 16) (S := fun w' => w'.cell? ⟨g, 3, none⟩ = some (.slice (some ⟨gp, 0, none⟩) 2 2) ∧ w'.cell? ⟨g, 2, none⟩ = some (.slice (some ⟨gf, 0, none⟩) 2 2)) (ds := [13, 15]) #[false, false, false, false, false, false, false, false, false, false, false, false, false, false, false, false] (by kernel_rfl) rfl rfl ⟨g3, g2⟩ (fun hHeld => ?_)
  rw [dh_ w14] at HG HF HP HL HW Hb HX
  replace hB := below_drew1 hB
  replace hK := hK.drew
  clear g0 g1 g2 g3 g4 g5 f0 f1 x0 x1 x2 x3
  generalize w14.drew = w15 at HG HF HP HL HW Hb HX hB hK hHeld ⊢
  obtain ⟨g0, g1, g2, g3, g4, g5⟩ := cl6 HG
  obtain ⟨f0, f1⟩ := cl2 HF
  obtain ⟨x0, x1, x2, x3⟩ := cl4 HX
  obtain ⟨p0, p1, p2, p3, p4, p5, p6, p7⟩ := cl8 HP
  have fz0 := blk_frozen HP 4
  have fz1 := blk_frozen HP 5
  have fz2 := blk_frozen HP 6
  have fz3 := blk_frozen HP 7
  have ff := blk_frozen HF 1
  refine pu_ (v := ?_) (a' := ?_) 0 (some 120) rfl rfl (by kernel_rfl) (fun _ _ _ h => h) (.inl ⟨by rfl, ?_⟩) ?_ ?_
  rotate_left
  · intro
    go_simp
    with_reducible rfl
  rotate_left
  · simp only [Act.put, zA, zB, zC, i64_w]
    rfl
  refine pu_ (v := ?_) (a' := ?_) 1 (some 121) rfl rfl (by kernel_rfl) (fun _ _ _ h => h) (.inl ⟨by rfl, ?_⟩) ?_ ?_
  rotate_left
  · intro
    go_simp
    with_reducible rfl
  rotate_left
  · simp only [Act.put, zA, zB, zC, i64_w]
    rfl
  refine pu_ (v := ?_) (a' := ?_) 2 (some 122) rfl rfl (by kernel_rfl) (fun _ _ _ h => h) (.inl ⟨by rfl, ?_⟩) ?_ ?_
  rotate_left
  · intro
    go_simp
    with_reducible rfl
  rotate_left
  · simp only [Act.put, zA, zB, zC, i64_w]
    rfl
  refine pu_ (v := ?_) (a' := ?_) 4 (some 124) rfl rfl (by kernel_rfl) (fun _ _ _ h => h) (.inl ⟨by rfl, ?_⟩) ?_ ?_
  rotate_left
  · intro
    go_simp
    with_reducible rfl
  rotate_left
  · simp only [Act.put, zA, zB, zC, i64_w]
    rfl
  refine pu_ (v := ?_) (a' := ?_) 5 (some 125) rfl rfl (by kernel_rfl) (fun _ _ _ h => h) (.inl ⟨by rfl, ?_⟩) ?_ ?_
  rotate_left
  · intro
    go_simp
    with_reducible rfl
  rotate_left
  · simp only [Act.put, zA, zB, zC, i64_w]
    rfl
  refine pu_ (v := ?_) (a' := ?_) 6 (some 126) rfl rfl (by kernel_rfl) (fun _ _ _ h => h) (.inl ⟨by rfl, ?_⟩) ?_ ?_
  rotate_left
  · intro
    go_simp
    with_reducible rfl
  rotate_left
  · simp only [Act.put, zA, zB, zC, i64_w]
    rfl
  refine pu_ (v := ?_) (a' := ?_) 7 (some 127) rfl rfl (by kernel_rfl) (fun _ _ _ h => h) (.inl ⟨by rfl, ?_⟩) ?_ ?_
  rotate_left
  · intro
    go_simp
    with_reducible rfl
  rotate_left
  · simp only [Act.put, zA, zB, zC, i64_w]
    rfl
  refine pu_ (v := ?_) (a' := ?_) 9 (some 129) rfl rfl (by kernel_rfl) (fun _ _ _ h => h) (.inl ⟨by rfl, ?_⟩) ?_ ?_
  rotate_left
  · intro
    go_simp
    with_reducible rfl
  rotate_left
  · simp only [Act.put, zA, zB, zC, i64_w]
    rfl
  refine pu_ (v := ?_) (a' := ?_) 10 (some 130) rfl rfl (by kernel_rfl) (fun _ _ _ h => h) (.inl ⟨by rfl, ?_⟩) ?_ ?_
  rotate_left
  · intro
    go_simp
    with_reducible rfl
  rotate_left
  · simp only [Act.put, zA, zB, zC, i64_w]
    rfl
  refine pu_ (v := ?_) (a' := ?_) 11 (some 131) rfl rfl (by kernel_rfl) (fun _ _ _ h => h) (.inl ⟨by rfl, ?_⟩) ?_ ?_
  rotate_left
  · intro
    go_simp
    with_reducible rfl
  rotate_left
  · simp only [Act.put, zA, zB, zC, i64_w]
    rfl
  refine tk_ (v := ?_) (a' := ?_) 3 (some 123) rfl rfl (by kernel_rfl) (fun _ _ _ h => h) hHeld (.inl ⟨by rfl, ?_⟩) ?_ ?_
  rotate_left
  · rintro w' ⟨s0, s1⟩
    go_simp
    with_reducible rfl
  rotate_left
  · simp only [Act.put, zA, zB, zC, i64_w]
    rfl
  refine tk_ (v := ?_) (a' := ?_) 8 (some 128) rfl rfl (by kernel_rfl) (fun _ _ _ h => h) hHeld (.inl ⟨by rfl, ?_⟩) ?_ ?_
  rotate_left
  · rintro w' ⟨s0, s1⟩
    go_simp
    with_reducible rfl
  rotate_left
  · simp only [Act.put, zA, zB, zC, i64_w]
    rfl
  refine pu_ (v := ?_) (a' := ?_) 12 (some 132) rfl rfl (by kernel_rfl) (fun _ _ _ h => h) (.inl ⟨by rfl, ?_⟩) ?_ ?_
  rotate_left
  · intro
    go_simp
    with_reducible rfl
  rotate_left
  · simp only [Act.put, zA, zB, zC, i64_w]
    rfl
  refine last_ (i := 13) (N := none) #[true, true, true, true, true, true, true, true, true, true, true, true, true, true, false, false] rfl rfl (by kernel_rfl) (by decide) (fun K hK => ?_)
  refine skip_ (w1 := ?_) (by rfl) rfl ?_ ?_
  rotate_left
  · go_simp
    rfl
  refine hK.out _ _ ?_
  clear hK K
  refine pu_ (v := ?_) (a' := ?_) 14 (some 133) rfl rfl (by kernel_rfl) (fun _ _ _ h => h) (.inl ⟨by rfl, ?_⟩) ?_ ?_
  rotate_left
  · intro
    go_simp
    with_reducible rfl
  rotate_left
  · simp only [Act.put, zA, zB, zC, i64_w]
    rfl
  refine last_ (i := 15) (N := none) #[true, true, true, true, true, true, true, true, true, true, true, true, true, true, true, true] rfl rfl (by kernel_rfl) (by decide) (fun K hK => ?_)
  have mHF := (blk_far (p := ⟨gp, 7, none⟩) (blk_far (p := ⟨gp, 6, none⟩) (blk_far (p := ⟨gp, 5, none⟩) (blk_far (p := ⟨gp, 4, none⟩) HF (blk_ne HF HP (by decide)) (.int .i64 0)) (blk_ne HF HP (by decide)) (.int .i64 0)) (blk_ne HF HP (by decide)) (.int .i64 0)) (blk_ne HF HP (by decide)) (.int .i64 0))
  have mf := (blk_cell mHF 1).trans (show _ = some _ from rfl)
  have mz := blk_frozen mHF 1
  refine skip_ (w1 := ?_) (by rfl) rfl ?_ ?_
  rotate_left
  · go_simp
    rfl
  refine hK.out _ _ ?_
  clear hK K
  refine done_ (by kernel_rfl) ?_
  
  clear g0 g1 g2 g3 g4 g5 f0 f1 x0 x1 x2 x3
  clear mHF mf mz ff p0 p1 p2 p3 p4 p5 p6 p7 fz0 fz1 fz2 fz3
  obtain ⟨w16, hN⟩ : ∃ N, N = World.setCell (World.setCell (World.setCell (World.setCell (World.setCell w15 ⟨gp, 4, none⟩ (.int .i64 0)) ⟨gp, 5, none⟩ (.int .i64 0)) ⟨gp, 6, none⟩ (.int .i64 0)) ⟨gp, 7, none⟩ (.int .i64 0)) ⟨gf, 1, none⟩ (.int .i64 10) := ⟨_, rfl⟩
  rw [← hN]
  replace HG := fz5 hN HG (blk_ne HG HP (by decide)) (blk_ne HG HF (by decide))
  replace HL := fz5 hN HL (blk_ne HL HP (by decide)) (blk_ne HL HF (by decide))
  replace HW := fz5 hN HW (blk_ne HW HP (by decide)) (blk_ne HW HF (by decide))
  replace Hb := fz5 hN Hb hbp (blk_ne Hb HF (by decide))
  replace HX := fz5 hN HX (blk_ne HX HP (by decide)) (blk_ne HX HF (by decide))
  replace hB := bz5 hN hB hgp hgf
  replace hK := kz5 hN hK
  have nPF := blk_ne HP HF (by decide)
  replace HP : w16.heap[gp]? = some (.cells #[.int .i64 2, .int .i64 1, .int .i64 0, .int .i64 10, .int .i64 0, .int .i64 0, .int .i64 0, .int .i64 0] 91 (0, 0)) := pz5 hN HP nPF rfl rfl rfl rfl
  replace HF : w16.heap[gf]? = some (.cells #[.int .i64 0, .int .i64 10] 3 (0, 0)) := qz5 hN HF nPF.symm rfl
  clear hN nPF
  obtain ⟨g0, g1, g2, g3, g4, g5⟩ := cl6 HG
  obtain ⟨f0, f1⟩ := cl2 HF
  obtain ⟨x0, x1, x2, x3⟩ := cl4 HX
  go_wp2
  rw [rounds_succ]
  go_wp2
  rw [rounds_succ]
  go_wp2
  (try simp only [Exit.inBlock, Exit.then])
  refine bodyPost_end (results_none rfl _ _ _) rfl ?_
  exact ⟨rfl, HG, HF, HP, HL, HW, Hb, hK, hB⟩

end Go.Proofs.Ytefinjjcbpdljaa.PB
