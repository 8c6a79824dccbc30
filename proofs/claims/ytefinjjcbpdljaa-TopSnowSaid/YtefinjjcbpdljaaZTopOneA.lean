-- Written by a program of this session (wip/top/gen.py). Not trusted: Lean checks it.
import Derived.Test.YtefinjjcbpdljaaZPPxD
import Derived.Test.YtefinjjcbpdljaaZTopBase
import Derived.Test.YtefinjjcbpdljaaZTopLeaf
import Derived.Test.YtefinjjcbpdljaaZTopShort
import Derived.LoopN
import Derived.Lib.LazyBuf
namespace Go.Proofs.Ytefinjjcbpdljaa.PB
open Go.RowKit Go.Proofs.YtefinjjcbpdljaaW.PrintWords Go.Proofs.YtefinjjcbpdljaaW.PrintLast Go.Proofs.YtefinjjcbpdljaaW.PrintMore
attribute [local go_sem] max2_int min2_int max_two min_two max_three min_three max_four min_four   -- for this text's walks alone
set_option linter.unusedVariables false
set_option linter.unusedSimpArgs false

set_option maxHeartbeats 8000000 in
set_option maxRecDepth 100000 in
theorem try_one_a (g gs gt cap gb cb : Nat) (cs : Array Value) (w0 w : World) (hB : Below w0.heap.size w0 w) (hg : w0.heap.size ≤ g) (hgt : w0.heap.size ≤ gt) (HG : w.heap[g]? = some (.cells #[.slice (some ⟨gs, 0, none⟩) 2 cap, .slice (some ⟨gt, 0, none⟩) 2 2, .int .i64 0, .int .i64 10, .int .i64 0, .int .i64 0, .slice none 0 0, .int .i64 0] 80 (0, 0))) (HT : w.heap[gt]? = some (.cells #[.int .i64 1, .int .i64 0] 3 (0, 0))) (Hs : w.heap[gs]? = some (.cells cs 54 (0, 0))) (k0 : cs[0]? = some (.int .i64 1)) (k1 : cs[1]? = some (.int .i64 3)) (k2 : cs[2]? = some (.int .i64 10)) (k3 : cs[3]? = some (.int .i64 2)) (k4 : cs[4]? = some (.int .i64 1)) (k5 : cs[5]? = some (.int .i64 15)) : Calls Try.prog 38 #[.pointer (some ⟨g, 0, none⟩), .int .i64 1, .int .i64 2] w fun e w' => e = .returned (.tuple #[]) ∧ ∃ gb capb cb, w'.heap[g]? = some (.cells #[.slice (some ⟨gs, 0, none⟩) 2 cap, .slice (some ⟨gt, 0, none⟩) 2 2, .int .i64 0, .int .i64 10, .int .i64 0, .int .i64 0, .slice (some ⟨gb, 0, none⟩) 2 capb, .int .i64 15] 80 (0, 0)) ∧ w'.heap[gt]? = some (.cells #[.int .i64 1, .int .i64 2] 3 (0, 0)) ∧ w'.heap[gs]? = some (.cells cs 54 (0, 0)) ∧ w'.heap[gb]? = some (.cells cb 3 (0, 0)) ∧ cb[0]? = some (.int .i64 1) ∧ cb[1]? = some (.int .i64 2) ∧ gb ≠ gt ∧ Below w0.heap.size w0 w' := by
  have Ngt : g ≠ gt := blk_ne HG HT (by decide)
  have Ngs : g ≠ gs := blk_ne HG Hs (by decide)
  have Nts : gt ≠ gs := blk_ne HT Hs (by decide)
  obtain ⟨g0, g1, g2, g3, g4, g5, g6, g7⟩ := cl8 HG
  obtain ⟨t0, t1⟩ := cl2 HT
  obtain ⟨s0, s1, s2, s3, s4, s5⟩ := sc6 Hs k0 k1 k2 k3 k4 k5
  have ft1 := blk_frozen HT 1
  have hnil : ∀ (w : World), (binOp .neq 28 (.slice none 0 0) (.slice none 0 0)).run Try.prog w = .ok (.bool false) w := fun w => run_neq_slice_nil w 28 3 none 0 0 Try.underlying28
  go_enter Try.func38, Try.ntmps38
  go_wp2
  go_quiet (fail)
  go_wp2
  refine wp_loop_rounds 3 ?_
  rw [rounds_succ]
  go_wp2
  clear ft1
  replace HG := blk_drewN HG nq
  replace HT := blk_drewN HT nq
  replace Hs := blk_drewN Hs nq
  replace hB := pw_below_drewN hB nq
  have qG := blk_far (p := ⟨gt, 1, none⟩) HG Ngt (.int .i64 1)
  have qT := blk_put HT 1 (.int .i64 1) rfl
  have qs := blk_far (p := ⟨gt, 1, none⟩) Hs Nts.symm (.int .i64 1)
  have qB := below_set (j := 1) (v := .int .i64 1) hB hgt
  clear g0 g1 g2 g3 g4 g5 g6 g7 t0 t1 s0 s1 s2 s3 s4 s5
  clear HG HT Hs hB
  generalize World.setCell (w.drewN nq) ⟨gt, 1, none⟩ (.int .i64 1) = w1 at qG qT qs qB ⊢
  have HG := qG
  have HT := qT
  have Hs := qs
  have hB := qB
  clear qG qT qs qB
  obtain ⟨g0, g1, g2, g3, g4, g5, g6, g7⟩ := cl8 HG
  obtain ⟨t0, t1⟩ := cl2 HT
  obtain ⟨s0, s1, s2, s3, s4, s5⟩ := sc6 Hs k0 k1 k2 k3 k4 k5
  refine start_ (n := 19) (S := fun w' => w'.cell? ⟨g, 3, none⟩ = some (.int .i64 10) ∧ w'.cell? ⟨g, 0, none⟩ = some (.slice (some ⟨gs, 0, none⟩) 2 cap) ∧ w'.cell? ⟨gs, 5, none⟩ = some (.int .i64 15)) (ds := [18]) #[false, false, false, false, false, false, false, false, false, false, false, false, false, false, false, false, false, false, false] (by kernel_rfl) rfl rfl ⟨g3, g0, s5⟩ (fun hHeld => ?_)
  have hwr : wrap64 25 = 25 := by unfold wrap64; omega
  rw [dh_ w1] at HG HT Hs
  replace hB := below_drew1 hB
  clear g0 g1 g2 g3 g4 g5 g6 g7 t0 t1 s0 s1 s2 s3 s4 s5
  generalize w1.drew = w2 at HG HT Hs hB hHeld ⊢
  obtain ⟨g0, g1, g2, g3, g4, g5, g6, g7⟩ := cl8 HG
  have f3 := blk_frozen HG 3
  obtain ⟨t0, t1⟩ := cl2 HT
  obtain ⟨s0, s1, s2, s3, s4, s5⟩ := sc6 Hs k0 k1 k2 k3 k4 k5
  refine pu_ (v := ?_) (a' := ?_) 0 (some 68) rfl rfl (by kernel_rfl) (fun _ _ _ h => h) (.inl ⟨by rfl, ?_⟩) ?_ ?_
  rotate_left
  · intro
    go_simp
    with_reducible rfl
  rotate_left
  · simp only [Act.put, zA, zB, zC, i64_w]
    rfl
  refine pu_ (v := ?_) (a' := ?_) 1 (some 69) rfl rfl (by kernel_rfl) (fun _ _ _ h => h) (.inl ⟨by rfl, ?_⟩) ?_ ?_
  rotate_left
  · intro
    go_simp
    with_reducible rfl
  rotate_left
  · simp only [Act.put, zA, zB, zC, i64_w]
    rfl
  refine pu_ (v := ?_) (a' := ?_) 2 (some 70) rfl rfl (by kernel_rfl) (fun _ _ _ h => h) (.inl ⟨by rfl, ?_⟩) ?_ ?_
  rotate_left
  · intro
    go_simp
    with_reducible rfl
  rotate_left
  · simp only [Act.put, zA, zB, zC, i64_w]
    rfl
  refine pu_ (v := ?_) (a' := ?_) 3 (some 71) rfl rfl (by kernel_rfl) (fun _ _ _ h => h) (.inl ⟨by rfl, ?_⟩) ?_ ?_
  rotate_left
  · intro
    go_simp
    with_reducible rfl
  rotate_left
  · simp only [Act.put, zA, zB, zC, i64_w]
    rfl
  refine pu_ (v := ?_) (a' := ?_) 4 (some 72) rfl rfl (by kernel_rfl) (fun _ _ _ h => h) (.inl ⟨by rfl, ?_⟩) ?_ ?_
  rotate_left
  · intro
    go_simp
    with_reducible rfl
  rotate_left
  · simp only [Act.put, zA, zB, zC, i64_w]
    rfl
  refine pu_ (v := ?_) (a' := ?_) 6 (some 74) rfl rfl (by kernel_rfl) (fun _ _ _ h => h) (.inl ⟨by rfl, ?_⟩) ?_ ?_
  rotate_left
  · intro
    go_simp
    with_reducible rfl
  rotate_left
  · simp only [Act.put, zA, zB, zC, i64_w]
    rfl
  refine pu_ (v := ?_) (a' := ?_) 7 (some 75) rfl rfl (by kernel_rfl) (fun _ _ _ h => h) (.inl ⟨by rfl, ?_⟩) ?_ ?_
  rotate_left
  · intro
    go_simp
    with_reducible rfl
  rotate_left
  · simp only [Act.put, zA, zB, zC, i64_w]
    rfl
  refine pu_ (v := ?_) (a' := ?_) 8 (some 76) rfl rfl (by kernel_rfl) (fun _ _ _ h => h) (.inl ⟨by rfl, ?_⟩) ?_ ?_
  rotate_left
  · intro
    go_simp
    with_reducible rfl
  rotate_left
  · simp only [Act.put, zA, zB, zC, i64_w]
    rfl
  refine pu_ (v := ?_) (a' := ?_) 10 (some 78) rfl rfl (by kernel_rfl) (fun _ _ _ h => h) (.inl ⟨by rfl, ?_⟩) ?_ ?_
  rotate_left
  · intro
    go_simp
    with_reducible rfl
  rotate_left
  · simp only [Act.put, zA, zB, zC, i64_w]
    rfl
  refine pu_ (v := ?_) (a' := ?_) 15 (some 83) rfl rfl (by kernel_rfl) (fun _ _ _ h => h) (.inl ⟨by rfl, ?_⟩) ?_ ?_
  rotate_left
  · intro
    go_simp
    with_reducible rfl
  rotate_left
  · simp only [Act.put, zA, zB, zC, i64_w]
    rfl
  refine pu_ (v := ?_) (a' := ?_) 16 (some 84) rfl rfl (by kernel_rfl) (fun _ _ _ h => h) (.inl ⟨by rfl, ?_⟩) ?_ ?_
  rotate_left
  · intro
    go_simp
    with_reducible rfl
  rotate_left
  · simp only [Act.put, zA, zB, zC, i64_w]
    rfl
  refine tk_ (v := ?_) (a' := ?_) 5 (some 73) rfl rfl (by kernel_rfl) (fun _ _ _ h => h) hHeld (.inl ⟨by rfl, ?_⟩) ?_ ?_
  rotate_left
  · rintro w' ⟨s0, s1, s2⟩
    go_simp
    with_reducible rfl
  rotate_left
  · simp only [Act.put, zA, zB, zC, i64_w]
    rfl
  refine tk_ (v := ?_) (a' := ?_) 9 (some 77) rfl rfl (by kernel_rfl) (fun _ _ _ h => h) hHeld (.inl ⟨by rfl, ?_⟩) ?_ ?_
  rotate_left
  · rintro w' ⟨s0, s1, s2⟩
    go_simp
    with_reducible rfl
  rotate_left
  · simp only [Act.put, zA, zB, zC, i64_w]
    rfl
  refine pu_ (v := ?_) (a' := ?_) 11 (some 79) rfl rfl (by kernel_rfl) (fun _ _ _ h => h) (.inl ⟨by rfl, ?_⟩) ?_ ?_
  rotate_left
  · intro
    go_simp
    with_reducible rfl
  rotate_left
  · simp only [Act.put, zA, zB, zC, i64_w]
    rfl
  refine pu_ (v := ?_) (a' := ?_) 12 (some 80) rfl rfl (by kernel_rfl) (fun _ _ _ h => h) (.inl ⟨by rfl, ?_⟩) ?_ ?_
  rotate_left
  · intro
    go_simp
    with_reducible rfl
  rotate_left
  · simp only [Act.put, zA, zB, zC, i64_w]
    rfl
  refine tk_ (v := ?_) (a' := ?_) 13 (some 81) rfl rfl (by kernel_rfl) (fun _ _ _ h => h) hHeld (.inl ⟨by rfl, ?_⟩) ?_ ?_
  rotate_left
  · rintro w' ⟨s0, s1, s2⟩
    go_simp
    with_reducible rfl
  rotate_left
  · simp only [Act.put, zA, zB, zC, i64_w]
    rfl
  refine pu_ (v := ?_) (a' := ?_) 14 (some 82) rfl rfl (by kernel_rfl) (fun _ _ _ h => h) (.inl ⟨by rfl, ?_⟩) ?_ ?_
  rotate_left
  · intro
    go_simp
    with_reducible rfl
  rotate_left
  · simp only [Act.put, zA, zB, zC, i64_w]
    rfl
  refine pu_ (v := ?_) (a' := ?_) 17 (some 85) rfl rfl (by kernel_rfl) (fun _ _ _ h => h) (.inl ⟨by rfl, ?_⟩) ?_ ?_
  rotate_left
  · intro
    go_simp
    with_reducible rfl
  rotate_left
  · simp only [Act.put, zA, zB, zC, i64_w]
    rfl
  refine last_ (i := 18) (N := none) #[true, true, true, true, true, true, true, true, true, true, true, true, true, true, true, true, true, true, true] rfl rfl (by kernel_rfl) (by decide) (fun K hK => ?_)
  refine skip_ (w1 := ?_) (by rfl) rfl ?_ ?_
  rotate_left
  · go_simp
    rfl
  refine hK.out _ _ ?_
  clear hK K
  refine done_ (by kernel_rfl) ?_
  
  clear hwr f3
  have qG := blk_put HG 3 (.int .i64 25) rfl
  have qT := blk_far (p := ⟨g, 3, none⟩) HT Ngt.symm (.int .i64 25)
  have qs := blk_far (p := ⟨g, 3, none⟩) Hs Ngs.symm (.int .i64 25)
  have qB := below_set (j := 3) (v := .int .i64 25) hB hg
  clear g0 g1 g2 g3 g4 g5 g6 g7 t0 t1 s0 s1 s2 s3 s4 s5
  clear HG HT Hs hB
  generalize World.setCell w2 ⟨g, 3, none⟩ (.int .i64 25) = w2' at qG qT qs qB ⊢
  have HG := qG
  have HT := qT
  have Hs := qs
  have hB := qB
  clear qG qT qs qB
  obtain ⟨g0, g1, g2, g3, g4, g5, g6, g7⟩ := cl8 HG
  obtain ⟨t0, t1⟩ := cl2 HT
  obtain ⟨s0, s1, s2, s3, s4, s5⟩ := sc6 Hs k0 k1 k2 k3 k4 k5
  go_wp2_with (first | (go_at_call 38; refine (try_set_a g gs gt cap 0 0 cs w0 _ hB hg hgt HG HT Hs k0 k1 k2 k3 k4 k5).mono ?_; rintro e w4 ⟨rfl, gb1, capb1, cb1, HG', HT', Hs', Hb', b0', b1', hbt', hB'⟩; clear g0 g1 g2 g3 g4 g5 g6 g7 t0 t1 s0 s1 s2 s3 s4 s5; clear HG HT Hs hB; have HG := HG'; have HT := HT'; have Hs := Hs'; have hB := hB'; have Hb := Hb'; have b0 := b0'; have b1 := b1'; have hbt := hbt'; clear HG' HT' Hs' hB' Hb' b0' b1' hbt'; obtain ⟨g0, g1, g2, g3, g4, g5, g6, g7⟩ := cl8 HG; obtain ⟨t0, t1⟩ := cl2 HT; obtain ⟨s0, s1, s2, s3, s4, s5⟩ := sc6 Hs k0 k1 k2 k3 k4 k5))
  refine start_ (n := 19) (S := fun w' => w'.cell? ⟨g, 3, none⟩ = some (.int .i64 25) ∧ w'.cell? ⟨g, 0, none⟩ = some (.slice (some ⟨gs, 0, none⟩) 2 cap) ∧ w'.cell? ⟨gs, 5, none⟩ = some (.int .i64 15)) (ds := [18]) #[false, false, false, false, false, false, false, false, false, false, false, false, false, false, false, false, false, false, false] (by kernel_rfl) rfl rfl ⟨g3, g0, s5⟩ (fun hHeld => ?_)
  have hwr : wrap64 10 = 10 := by unfold wrap64; omega
  rw [dh_ w4] at HG HT Hs Hb
  replace hB := below_drew1 hB
  clear g0 g1 g2 g3 g4 g5 g6 g7 t0 t1 s0 s1 s2 s3 s4 s5
  generalize w4.drew = w5 at HG HT Hs hB Hb hHeld ⊢
  obtain ⟨g0, g1, g2, g3, g4, g5, g6, g7⟩ := cl8 HG
  have f3 := blk_frozen HG 3
  obtain ⟨t0, t1⟩ := cl2 HT
  obtain ⟨s0, s1, s2, s3, s4, s5⟩ := sc6 Hs k0 k1 k2 k3 k4 k5
  refine pu_ (v := ?_) (a' := ?_) 0 (some 91) rfl rfl (by kernel_rfl) (fun _ _ _ h => h) (.inl ⟨by rfl, ?_⟩) ?_ ?_
  rotate_left
  · intro
    go_simp
    with_reducible rfl
  rotate_left
  · simp only [Act.put, zA, zB, zC, i64_w]
    rfl
  refine pu_ (v := ?_) (a' := ?_) 1 (some 92) rfl rfl (by kernel_rfl) (fun _ _ _ h => h) (.inl ⟨by rfl, ?_⟩) ?_ ?_
  rotate_left
  · intro
    go_simp
    with_reducible rfl
  rotate_left
  · simp only [Act.put, zA, zB, zC, i64_w]
    rfl
  refine pu_ (v := ?_) (a' := ?_) 2 (some 93) rfl rfl (by kernel_rfl) (fun _ _ _ h => h) (.inl ⟨by rfl, ?_⟩) ?_ ?_
  rotate_left
  · intro
    go_simp
    with_reducible rfl
  rotate_left
  · simp only [Act.put, zA, zB, zC, i64_w]
    rfl
  refine pu_ (v := ?_) (a' := ?_) 3 (some 94) rfl rfl (by kernel_rfl) (fun _ _ _ h => h) (.inl ⟨by rfl, ?_⟩) ?_ ?_
  rotate_left
  · intro
    go_simp
    with_reducible rfl
  rotate_left
  · simp only [Act.put, zA, zB, zC, i64_w]
    rfl
  refine pu_ (v := ?_) (a' := ?_) 4 (some 95) rfl rfl (by kernel_rfl) (fun _ _ _ h => h) (.inl ⟨by rfl, ?_⟩) ?_ ?_
  rotate_left
  · intro
    go_simp
    with_reducible rfl
  rotate_left
  · simp only [Act.put, zA, zB, zC, i64_w]
    rfl
  refine pu_ (v := ?_) (a' := ?_) 6 (some 97) rfl rfl (by kernel_rfl) (fun _ _ _ h => h) (.inl ⟨by rfl, ?_⟩) ?_ ?_
  rotate_left
  · intro
    go_simp
    with_reducible rfl
  rotate_left
  · simp only [Act.put, zA, zB, zC, i64_w]
    rfl
  refine pu_ (v := ?_) (a' := ?_) 7 (some 98) rfl rfl (by kernel_rfl) (fun _ _ _ h => h) (.inl ⟨by rfl, ?_⟩) ?_ ?_
  rotate_left
  · intro
    go_simp
    with_reducible rfl
  rotate_left
  · simp only [Act.put, zA, zB, zC, i64_w]
    rfl
  refine pu_ (v := ?_) (a' := ?_) 8 (some 99) rfl rfl (by kernel_rfl) (fun _ _ _ h => h) (.inl ⟨by rfl, ?_⟩) ?_ ?_
  rotate_left
  · intro
    go_simp
    with_reducible rfl
  rotate_left
  · simp only [Act.put, zA, zB, zC, i64_w]
    rfl
  refine pu_ (v := ?_) (a' := ?_) 10 (some 101) rfl rfl (by kernel_rfl) (fun _ _ _ h => h) (.inl ⟨by rfl, ?_⟩) ?_ ?_
  rotate_left
  · intro
    go_simp
    with_reducible rfl
  rotate_left
  · simp only [Act.put, zA, zB, zC, i64_w]
    rfl
  refine pu_ (v := ?_) (a' := ?_) 15 (some 106) rfl rfl (by kernel_rfl) (fun _ _ _ h => h) (.inl ⟨by rfl, ?_⟩) ?_ ?_
  rotate_left
  · intro
    go_simp
    with_reducible rfl
  rotate_left
  · simp only [Act.put, zA, zB, zC, i64_w]
    rfl
  refine pu_ (v := ?_) (a' := ?_) 16 (some 107) rfl rfl (by kernel_rfl) (fun _ _ _ h => h) (.inl ⟨by rfl, ?_⟩) ?_ ?_
  rotate_left
  · intro
    go_simp
    with_reducible rfl
  rotate_left
  · simp only [Act.put, zA, zB, zC, i64_w]
    rfl
  refine tk_ (v := ?_) (a' := ?_) 5 (some 96) rfl rfl (by kernel_rfl) (fun _ _ _ h => h) hHeld (.inl ⟨by rfl, ?_⟩) ?_ ?_
  rotate_left
  · rintro w' ⟨s0, s1, s2⟩
    go_simp
    with_reducible rfl
  rotate_left
  · simp only [Act.put, zA, zB, zC, i64_w]
    rfl
  refine tk_ (v := ?_) (a' := ?_) 9 (some 100) rfl rfl (by kernel_rfl) (fun _ _ _ h => h) hHeld (.inl ⟨by rfl, ?_⟩) ?_ ?_
  rotate_left
  · rintro w' ⟨s0, s1, s2⟩
    go_simp
    with_reducible rfl
  rotate_left
  · simp only [Act.put, zA, zB, zC, i64_w]
    rfl
  refine pu_ (v := ?_) (a' := ?_) 11 (some 102) rfl rfl (by kernel_rfl) (fun _ _ _ h => h) (.inl ⟨by rfl, ?_⟩) ?_ ?_
  rotate_left
  · intro
    go_simp
    with_reducible rfl
  rotate_left
  · simp only [Act.put, zA, zB, zC, i64_w]
    rfl
  refine pu_ (v := ?_) (a' := ?_) 12 (some 103) rfl rfl (by kernel_rfl) (fun _ _ _ h => h) (.inl ⟨by rfl, ?_⟩) ?_ ?_
  rotate_left
  · intro
    go_simp
    with_reducible rfl
  rotate_left
  · simp only [Act.put, zA, zB, zC, i64_w]
    rfl
  refine tk_ (v := ?_) (a' := ?_) 13 (some 104) rfl rfl (by kernel_rfl) (fun _ _ _ h => h) hHeld (.inl ⟨by rfl, ?_⟩) ?_ ?_
  rotate_left
  · rintro w' ⟨s0, s1, s2⟩
    go_simp
    with_reducible rfl
  rotate_left
  · simp only [Act.put, zA, zB, zC, i64_w]
    rfl
  refine pu_ (v := ?_) (a' := ?_) 14 (some 105) rfl rfl (by kernel_rfl) (fun _ _ _ h => h) (.inl ⟨by rfl, ?_⟩) ?_ ?_
  rotate_left
  · intro
    go_simp
    with_reducible rfl
  rotate_left
  · simp only [Act.put, zA, zB, zC, i64_w]
    rfl
  refine pu_ (v := ?_) (a' := ?_) 17 (some 108) rfl rfl (by kernel_rfl) (fun _ _ _ h => h) (.inl ⟨by rfl, ?_⟩) ?_ ?_
  rotate_left
  · intro
    go_simp
    with_reducible rfl
  rotate_left
  · simp only [Act.put, zA, zB, zC, i64_w]
    rfl
  refine last_ (i := 18) (N := none) #[true, true, true, true, true, true, true, true, true, true, true, true, true, true, true, true, true, true, true] rfl rfl (by kernel_rfl) (by decide) (fun K hK => ?_)
  refine skip_ (w1 := ?_) (by rfl) rfl ?_ ?_
  rotate_left
  · go_simp
    rfl
  refine hK.out _ _ ?_
  clear hK K
  refine done_ (by kernel_rfl) ?_
  
  clear hwr f3
  have qG := blk_put HG 3 (.int .i64 10) rfl
  have qT := blk_far (p := ⟨g, 3, none⟩) HT Ngt.symm (.int .i64 10)
  have qs := blk_far (p := ⟨g, 3, none⟩) Hs Ngs.symm (.int .i64 10)
  have qB := below_set (j := 3) (v := .int .i64 10) hB hg
  have qb := blk_far (p := ⟨g, 3, none⟩) Hb (blk_ne Hb HG (by decide)) (.int .i64 10)
  clear g0 g1 g2 g3 g4 g5 g6 g7 t0 t1 s0 s1 s2 s3 s4 s5
  clear HG HT Hs hB Hb
  generalize World.setCell w5 ⟨g, 3, none⟩ (.int .i64 10) = w5' at qG qT qs qB qb ⊢
  have HG := qG
  have HT := qT
  have Hs := qs
  have hB := qB
  have Hb := qb
  clear qG qT qs qB qb
  obtain ⟨g0, g1, g2, g3, g4, g5, g6, g7⟩ := cl8 HG
  obtain ⟨t0, t1⟩ := cl2 HT
  obtain ⟨s0, s1, s2, s3, s4, s5⟩ := sc6 Hs k0 k1 k2 k3 k4 k5
  have ft1 := blk_frozen HT 1
  go_wp2
  rw [rounds_succ]
  go_wp2
  clear ft1
  have qG := blk_far (p := ⟨gt, 1, none⟩) HG Ngt (.int .i64 2)
  have qT := blk_put HT 1 (.int .i64 2) rfl
  have qs := blk_far (p := ⟨gt, 1, none⟩) Hs Nts.symm (.int .i64 2)
  have qB := below_set (j := 1) (v := .int .i64 2) hB hgt
  have qb := blk_far (p := ⟨gt, 1, none⟩) Hb hbt (.int .i64 2)
  clear g0 g1 g2 g3 g4 g5 g6 g7 t0 t1 s0 s1 s2 s3 s4 s5
  clear HG HT Hs hB Hb
  generalize World.setCell w5' ⟨gt, 1, none⟩ (.int .i64 2) = w6 at qG qT qs qB qb ⊢
  have HG := qG
  have HT := qT
  have Hs := qs
  have hB := qB
  have Hb := qb
  clear qG qT qs qB qb
  obtain ⟨g0, g1, g2, g3, g4, g5, g6, g7⟩ := cl8 HG
  obtain ⟨t0, t1⟩ := cl2 HT
  obtain ⟨s0, s1, s2, s3, s4, s5⟩ := sc6 Hs k0 k1 k2 k3 k4 k5
  refine start_ (n := 19) (S := fun w' => w'.cell? ⟨g, 4, none⟩ = some (.int .i64 0) ∧ w'.cell? ⟨g, 0, none⟩ = some (.slice (some ⟨gs, 0, none⟩) 2 cap) ∧ w'.cell? ⟨gs, 5, none⟩ = some (.int .i64 15)) (ds := [18]) #[false, false, false, false, false, false, false, false, false, false, false, false, false, false, false, false, false, false, false] (by kernel_rfl) rfl rfl ⟨g4, g0, s5⟩ (fun hHeld => ?_)
  have hwr : wrap64 15 = 15 := by unfold wrap64; omega
  rw [dh_ w6] at HG HT Hs Hb
  replace hB := below_drew1 hB
  clear g0 g1 g2 g3 g4 g5 g6 g7 t0 t1 s0 s1 s2 s3 s4 s5
  generalize w6.drew = w7 at HG HT Hs hB Hb hHeld ⊢
  obtain ⟨g0, g1, g2, g3, g4, g5, g6, g7⟩ := cl8 HG
  have f4 := blk_frozen HG 4
  obtain ⟨t0, t1⟩ := cl2 HT
  obtain ⟨s0, s1, s2, s3, s4, s5⟩ := sc6 Hs k0 k1 k2 k3 k4 k5
  refine pu_ (v := ?_) (a' := ?_) 0 (some 68) rfl rfl (by kernel_rfl) (fun _ _ _ h => h) (.inl ⟨by rfl, ?_⟩) ?_ ?_
  rotate_left
  · intro
    go_simp
    with_reducible rfl
  rotate_left
  · simp only [Act.put, zA, zB, zC, i64_w]
    rfl
  refine pu_ (v := ?_) (a' := ?_) 1 (some 69) rfl rfl (by kernel_rfl) (fun _ _ _ h => h) (.inl ⟨by rfl, ?_⟩) ?_ ?_
  rotate_left
  · intro
    go_simp
    with_reducible rfl
  rotate_left
  · simp only [Act.put, zA, zB, zC, i64_w]
    rfl
  refine pu_ (v := ?_) (a' := ?_) 2 (some 70) rfl rfl (by kernel_rfl) (fun _ _ _ h => h) (.inl ⟨by rfl, ?_⟩) ?_ ?_
  rotate_left
  · intro
    go_simp
    with_reducible rfl
  rotate_left
  · simp only [Act.put, zA, zB, zC, i64_w]
    rfl
  refine pu_ (v := ?_) (a' := ?_) 3 (some 71) rfl rfl (by kernel_rfl) (fun _ _ _ h => h) (.inl ⟨by rfl, ?_⟩) ?_ ?_
  rotate_left
  · intro
    go_simp
    with_reducible rfl
  rotate_left
  · simp only [Act.put, zA, zB, zC, i64_w]
    rfl
  refine pu_ (v := ?_) (a' := ?_) 4 (some 72) rfl rfl (by kernel_rfl) (fun _ _ _ h => h) (.inl ⟨by rfl, ?_⟩) ?_ ?_
  rotate_left
  · intro
    go_simp
    with_reducible rfl
  rotate_left
  · simp only [Act.put, zA, zB, zC, i64_w]
    rfl
  refine pu_ (v := ?_) (a' := ?_) 6 (some 74) rfl rfl (by kernel_rfl) (fun _ _ _ h => h) (.inl ⟨by rfl, ?_⟩) ?_ ?_
  rotate_left
  · intro
    go_simp
    with_reducible rfl
  rotate_left
  · simp only [Act.put, zA, zB, zC, i64_w]
    rfl
  refine pu_ (v := ?_) (a' := ?_) 7 (some 75) rfl rfl (by kernel_rfl) (fun _ _ _ h => h) (.inl ⟨by rfl, ?_⟩) ?_ ?_
  rotate_left
  · intro
    go_simp
    with_reducible rfl
  rotate_left
  · simp only [Act.put, zA, zB, zC, i64_w]
    rfl
  refine pu_ (v := ?_) (a' := ?_) 8 (some 76) rfl rfl (by kernel_rfl) (fun _ _ _ h => h) (.inl ⟨by rfl, ?_⟩) ?_ ?_
  rotate_left
  · intro
    go_simp
    with_reducible rfl
  rotate_left
  · simp only [Act.put, zA, zB, zC, i64_w]
    rfl
  refine pu_ (v := ?_) (a' := ?_) 10 (some 78) rfl rfl (by kernel_rfl) (fun _ _ _ h => h) (.inl ⟨by rfl, ?_⟩) ?_ ?_
  rotate_left
  · intro
    go_simp
    with_reducible rfl
  rotate_left
  · simp only [Act.put, zA, zB, zC, i64_w]
    rfl
  refine pu_ (v := ?_) (a' := ?_) 15 (some 83) rfl rfl (by kernel_rfl) (fun _ _ _ h => h) (.inl ⟨by rfl, ?_⟩) ?_ ?_
  rotate_left
  · intro
    go_simp
    with_reducible rfl
  rotate_left
  · simp only [Act.put, zA, zB, zC, i64_w]
    rfl
  refine pu_ (v := ?_) (a' := ?_) 16 (some 84) rfl rfl (by kernel_rfl) (fun _ _ _ h => h) (.inl ⟨by rfl, ?_⟩) ?_ ?_
  rotate_left
  · intro
    go_simp
    with_reducible rfl
  rotate_left
  · simp only [Act.put, zA, zB, zC, i64_w]
    rfl
  refine tk_ (v := ?_) (a' := ?_) 5 (some 73) rfl rfl (by kernel_rfl) (fun _ _ _ h => h) hHeld (.inl ⟨by rfl, ?_⟩) ?_ ?_
  rotate_left
  · rintro w' ⟨s0, s1, s2⟩
    go_simp
    with_reducible rfl
  rotate_left
  · simp only [Act.put, zA, zB, zC, i64_w]
    rfl
  refine tk_ (v := ?_) (a' := ?_) 9 (some 77) rfl rfl (by kernel_rfl) (fun _ _ _ h => h) hHeld (.inl ⟨by rfl, ?_⟩) ?_ ?_
  rotate_left
  · rintro w' ⟨s0, s1, s2⟩
    go_simp
    with_reducible rfl
  rotate_left
  · simp only [Act.put, zA, zB, zC, i64_w]
    rfl
  refine pu_ (v := ?_) (a' := ?_) 11 (some 79) rfl rfl (by kernel_rfl) (fun _ _ _ h => h) (.inl ⟨by rfl, ?_⟩) ?_ ?_
  rotate_left
  · intro
    go_simp
    with_reducible rfl
  rotate_left
  · simp only [Act.put, zA, zB, zC, i64_w]
    rfl
  refine pu_ (v := ?_) (a' := ?_) 12 (some 80) rfl rfl (by kernel_rfl) (fun _ _ _ h => h) (.inl ⟨by rfl, ?_⟩) ?_ ?_
  rotate_left
  · intro
    go_simp
    with_reducible rfl
  rotate_left
  · simp only [Act.put, zA, zB, zC, i64_w]
    rfl
  refine tk_ (v := ?_) (a' := ?_) 13 (some 81) rfl rfl (by kernel_rfl) (fun _ _ _ h => h) hHeld (.inl ⟨by rfl, ?_⟩) ?_ ?_
  rotate_left
  · rintro w' ⟨s0, s1, s2⟩
    go_simp
    with_reducible rfl
  rotate_left
  · simp only [Act.put, zA, zB, zC, i64_w]
    rfl
  refine pu_ (v := ?_) (a' := ?_) 14 (some 82) rfl rfl (by kernel_rfl) (fun _ _ _ h => h) (.inl ⟨by rfl, ?_⟩) ?_ ?_
  rotate_left
  · intro
    go_simp
    with_reducible rfl
  rotate_left
  · simp only [Act.put, zA, zB, zC, i64_w]
    rfl
  refine pu_ (v := ?_) (a' := ?_) 17 (some 85) rfl rfl (by kernel_rfl) (fun _ _ _ h => h) (.inl ⟨by rfl, ?_⟩) ?_ ?_
  rotate_left
  · intro
    go_simp
    with_reducible rfl
  rotate_left
  · simp only [Act.put, zA, zB, zC, i64_w]
    rfl
  refine last_ (i := 18) (N := none) #[true, true, true, true, true, true, true, true, true, true, true, true, true, true, true, true, true, true, true] rfl rfl (by kernel_rfl) (by decide) (fun K hK => ?_)
  refine skip_ (w1 := ?_) (by rfl) rfl ?_ ?_
  rotate_left
  · go_simp
    rfl
  refine hK.out _ _ ?_
  clear hK K
  refine done_ (by kernel_rfl) ?_
  
  clear hwr f4
  have qG := blk_put HG 4 (.int .i64 15) rfl
  have qT := blk_far (p := ⟨g, 4, none⟩) HT Ngt.symm (.int .i64 15)
  have qs := blk_far (p := ⟨g, 4, none⟩) Hs Ngs.symm (.int .i64 15)
  have qB := below_set (j := 4) (v := .int .i64 15) hB hg
  have qb := blk_far (p := ⟨g, 4, none⟩) Hb (blk_ne Hb HG (by decide)) (.int .i64 15)
  clear g0 g1 g2 g3 g4 g5 g6 g7 t0 t1 s0 s1 s2 s3 s4 s5
  clear HG HT Hs hB Hb
  generalize World.setCell w7 ⟨g, 4, none⟩ (.int .i64 15) = w7' at qG qT qs qB qb ⊢
  have HG := qG
  have HT := qT
  have Hs := qs
  have hB := qB
  have Hb := qb
  clear qG qT qs qB qb
  obtain ⟨g0, g1, g2, g3, g4, g5, g6, g7⟩ := cl8 HG
  obtain ⟨t0, t1⟩ := cl2 HT
  obtain ⟨s0, s1, s2, s3, s4, s5⟩ := sc6 Hs k0 k1 k2 k3 k4 k5
  go_wp2_with (first | (go_at_call 38; refine (try_set_b g gs gt cap gb1 capb1 cs w0 _ hB hg hgt HG HT Hs k0 k1 k2 k3 k4 k5).mono ?_; rintro e w8 ⟨rfl, gb2, capb2, cb2, HG', HT', Hs', Hb', b0', b1', hbt', hB'⟩; clear g0 g1 g2 g3 g4 g5 g6 g7 t0 t1 s0 s1 s2 s3 s4 s5; clear HG HT Hs hB Hb b0 b1 hbt; have HG := HG'; have HT := HT'; have Hs := Hs'; have hB := hB'; have Hb := Hb'; have b0 := b0'; have b1 := b1'; have hbt := hbt'; clear HG' HT' Hs' hB' Hb' b0' b1' hbt'; obtain ⟨g0, g1, g2, g3, g4, g5, g6, g7⟩ := cl8 HG; obtain ⟨t0, t1⟩ := cl2 HT; obtain ⟨s0, s1, s2, s3, s4, s5⟩ := sc6 Hs k0 k1 k2 k3 k4 k5))
  refine start_ (n := 19) (S := fun w' => w'.cell? ⟨g, 4, none⟩ = some (.int .i64 15) ∧ w'.cell? ⟨g, 0, none⟩ = some (.slice (some ⟨gs, 0, none⟩) 2 cap) ∧ w'.cell? ⟨gs, 5, none⟩ = some (.int .i64 15)) (ds := [18]) #[false, false, false, false, false, false, false, false, false, false, false, false, false, false, false, false, false, false, false] (by kernel_rfl) rfl rfl ⟨g4, g0, s5⟩ (fun hHeld => ?_)
  have hwr : wrap64 0 = 0 := by unfold wrap64; omega
  rw [dh_ w8] at HG HT Hs Hb
  replace hB := below_drew1 hB
  clear g0 g1 g2 g3 g4 g5 g6 g7 t0 t1 s0 s1 s2 s3 s4 s5
  generalize w8.drew = w9 at HG HT Hs hB Hb hHeld ⊢
  obtain ⟨g0, g1, g2, g3, g4, g5, g6, g7⟩ := cl8 HG
  have f4 := blk_frozen HG 4
  obtain ⟨t0, t1⟩ := cl2 HT
  obtain ⟨s0, s1, s2, s3, s4, s5⟩ := sc6 Hs k0 k1 k2 k3 k4 k5
  refine pu_ (v := ?_) (a' := ?_) 0 (some 91) rfl rfl (by kernel_rfl) (fun _ _ _ h => h) (.inl ⟨by rfl, ?_⟩) ?_ ?_
  rotate_left
  · intro
    go_simp
    with_reducible rfl
  rotate_left
  · simp only [Act.put, zA, zB, zC, i64_w]
    rfl
  refine pu_ (v := ?_) (a' := ?_) 1 (some 92) rfl rfl (by kernel_rfl) (fun _ _ _ h => h) (.inl ⟨by rfl, ?_⟩) ?_ ?_
  rotate_left
  · intro
    go_simp
    with_reducible rfl
  rotate_left
  · simp only [Act.put, zA, zB, zC, i64_w]
    rfl
  refine pu_ (v := ?_) (a' := ?_) 2 (some 93) rfl rfl (by kernel_rfl) (fun _ _ _ h => h) (.inl ⟨by rfl, ?_⟩) ?_ ?_
  rotate_left
  · intro
    go_simp
    with_reducible rfl
  rotate_left
  · simp only [Act.put, zA, zB, zC, i64_w]
    rfl
  refine pu_ (v := ?_) (a' := ?_) 3 (some 94) rfl rfl (by kernel_rfl) (fun _ _ _ h => h) (.inl ⟨by rfl, ?_⟩) ?_ ?_
  rotate_left
  · intro
    go_simp
    with_reducible rfl
  rotate_left
  · simp only [Act.put, zA, zB, zC, i64_w]
    rfl
  refine pu_ (v := ?_) (a' := ?_) 4 (some 95) rfl rfl (by kernel_rfl) (fun _ _ _ h => h) (.inl ⟨by rfl, ?_⟩) ?_ ?_
  rotate_left
  · intro
    go_simp
    with_reducible rfl
  rotate_left
  · simp only [Act.put, zA, zB, zC, i64_w]
    rfl
  refine pu_ (v := ?_) (a' := ?_) 6 (some 97) rfl rfl (by kernel_rfl) (fun _ _ _ h => h) (.inl ⟨by rfl, ?_⟩) ?_ ?_
  rotate_left
  · intro
    go_simp
    with_reducible rfl
  rotate_left
  · simp only [Act.put, zA, zB, zC, i64_w]
    rfl
  refine pu_ (v := ?_) (a' := ?_) 7 (some 98) rfl rfl (by kernel_rfl) (fun _ _ _ h => h) (.inl ⟨by rfl, ?_⟩) ?_ ?_
  rotate_left
  · intro
    go_simp
    with_reducible rfl
  rotate_left
  · simp only [Act.put, zA, zB, zC, i64_w]
    rfl
  refine pu_ (v := ?_) (a' := ?_) 8 (some 99) rfl rfl (by kernel_rfl) (fun _ _ _ h => h) (.inl ⟨by rfl, ?_⟩) ?_ ?_
  rotate_left
  · intro
    go_simp
    with_reducible rfl
  rotate_left
  · simp only [Act.put, zA, zB, zC, i64_w]
    rfl
  refine pu_ (v := ?_) (a' := ?_) 10 (some 101) rfl rfl (by kernel_rfl) (fun _ _ _ h => h) (.inl ⟨by rfl, ?_⟩) ?_ ?_
  rotate_left
  · intro
    go_simp
    with_reducible rfl
  rotate_left
  · simp only [Act.put, zA, zB, zC, i64_w]
    rfl
  refine pu_ (v := ?_) (a' := ?_) 15 (some 106) rfl rfl (by kernel_rfl) (fun _ _ _ h => h) (.inl ⟨by rfl, ?_⟩) ?_ ?_
  rotate_left
  · intro
    go_simp
    with_reducible rfl
  rotate_left
  · simp only [Act.put, zA, zB, zC, i64_w]
    rfl
  refine pu_ (v := ?_) (a' := ?_) 16 (some 107) rfl rfl (by kernel_rfl) (fun _ _ _ h => h) (.inl ⟨by rfl, ?_⟩) ?_ ?_
  rotate_left
  · intro
    go_simp
    with_reducible rfl
  rotate_left
  · simp only [Act.put, zA, zB, zC, i64_w]
    rfl
  refine tk_ (v := ?_) (a' := ?_) 5 (some 96) rfl rfl (by kernel_rfl) (fun _ _ _ h => h) hHeld (.inl ⟨by rfl, ?_⟩) ?_ ?_
  rotate_left
  · rintro w' ⟨s0, s1, s2⟩
    go_simp
    with_reducible rfl
  rotate_left
  · simp only [Act.put, zA, zB, zC, i64_w]
    rfl
  refine tk_ (v := ?_) (a' := ?_) 9 (some 100) rfl rfl (by kernel_rfl) (fun _ _ _ h => h) hHeld (.inl ⟨by rfl, ?_⟩) ?_ ?_
  rotate_left
  · rintro w' ⟨s0, s1, s2⟩
    go_simp
    with_reducible rfl
  rotate_left
  · simp only [Act.put, zA, zB, zC, i64_w]
    rfl
  refine pu_ (v := ?_) (a' := ?_) 11 (some 102) rfl rfl (by kernel_rfl) (fun _ _ _ h => h) (.inl ⟨by rfl, ?_⟩) ?_ ?_
  rotate_left
  · intro
    go_simp
    with_reducible rfl
  rotate_left
  · simp only [Act.put, zA, zB, zC, i64_w]
    rfl
  refine pu_ (v := ?_) (a' := ?_) 12 (some 103) rfl rfl (by kernel_rfl) (fun _ _ _ h => h) (.inl ⟨by rfl, ?_⟩) ?_ ?_
  rotate_left
  · intro
    go_simp
    with_reducible rfl
  rotate_left
  · simp only [Act.put, zA, zB, zC, i64_w]
    rfl
  refine tk_ (v := ?_) (a' := ?_) 13 (some 104) rfl rfl (by kernel_rfl) (fun _ _ _ h => h) hHeld (.inl ⟨by rfl, ?_⟩) ?_ ?_
  rotate_left
  · rintro w' ⟨s0, s1, s2⟩
    go_simp
    with_reducible rfl
  rotate_left
  · simp only [Act.put, zA, zB, zC, i64_w]
    rfl
  refine pu_ (v := ?_) (a' := ?_) 14 (some 105) rfl rfl (by kernel_rfl) (fun _ _ _ h => h) (.inl ⟨by rfl, ?_⟩) ?_ ?_
  rotate_left
  · intro
    go_simp
    with_reducible rfl
  rotate_left
  · simp only [Act.put, zA, zB, zC, i64_w]
    rfl
  refine pu_ (v := ?_) (a' := ?_) 17 (some 108) rfl rfl (by kernel_rfl) (fun _ _ _ h => h) (.inl ⟨by rfl, ?_⟩) ?_ ?_
  rotate_left
  · intro
    go_simp
    with_reducible rfl
  rotate_left
  · simp only [Act.put, zA, zB, zC, i64_w]
    rfl
  refine last_ (i := 18) (N := none) #[true, true, true, true, true, true, true, true, true, true, true, true, true, true, true, true, true, true, true] rfl rfl (by kernel_rfl) (by decide) (fun K hK => ?_)
  refine skip_ (w1 := ?_) (by rfl) rfl ?_ ?_
  rotate_left
  · go_simp
    rfl
  refine hK.out _ _ ?_
  clear hK K
  refine done_ (by kernel_rfl) ?_
  
  clear hwr f4
  have qG := blk_put HG 4 (.int .i64 0) rfl
  have qT := blk_far (p := ⟨g, 4, none⟩) HT Ngt.symm (.int .i64 0)
  have qs := blk_far (p := ⟨g, 4, none⟩) Hs Ngs.symm (.int .i64 0)
  have qB := below_set (j := 4) (v := .int .i64 0) hB hg
  have qb := blk_far (p := ⟨g, 4, none⟩) Hb (blk_ne Hb HG (by decide)) (.int .i64 0)
  clear g0 g1 g2 g3 g4 g5 g6 g7 t0 t1 s0 s1 s2 s3 s4 s5
  clear HG HT Hs hB Hb
  generalize World.setCell w9 ⟨g, 4, none⟩ (.int .i64 0) = w9' at qG qT qs qB qb ⊢
  have HG := qG
  have HT := qT
  have Hs := qs
  have hB := qB
  have Hb := qb
  clear qG qT qs qB qb
  obtain ⟨g0, g1, g2, g3, g4, g5, g6, g7⟩ := cl8 HG
  obtain ⟨t0, t1⟩ := cl2 HT
  obtain ⟨s0, s1, s2, s3, s4, s5⟩ := sc6 Hs k0 k1 k2 k3 k4 k5
  go_wp2
  rw [rounds_succ]
  go_wp2
  (try simp only [Exit.inBlock, Exit.then])
  refine bodyPost_end (results_none rfl _ _ _) rfl ?_
  exact ⟨rfl, gb2, capb2, cb2, HG, HT, Hs, Hb, b0, b1, hbt, hB⟩

end Go.Proofs.Ytefinjjcbpdljaa.PB
