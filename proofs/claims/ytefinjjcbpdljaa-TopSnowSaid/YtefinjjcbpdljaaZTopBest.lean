-- Written by a program of this session (wip/top/gen.py). Not trusted: Lean checks it.
import Derived.Test.YtefinjjcbpdljaaZPPxD
import Derived.Test.YtefinjjcbpdljaaZTopRoot
import Derived.LoopN
import Derived.Lib.LazyBuf
namespace Go.Proofs.Ytefinjjcbpdljaa.PB
open Go.RowKit Go.Proofs.YtefinjjcbpdljaaW.PrintWords Go.Proofs.YtefinjjcbpdljaaW.PrintLast Go.Proofs.YtefinjjcbpdljaaW.PrintMore
attribute [local go_sem] max2_int min2_int max_two min_two max_three min_three max_four min_four   -- for this text's walks alone
set_option linter.unusedVariables false
set_option linter.unusedSimpArgs false

theorem madeI : madeCells #[.int .i64 0] 2 = #[.int .i64 0, .int .i64 0] := by unfold madeCells; rw [show Array.range 2 = #[0, 1] from by decide]; simp [Nat.mod_one]
theorem madeS : madeCells #[.int .i64 0, .int .i64 0, .int .i64 0, .int .i64 0] 8 = #[.int .i64 0, .int .i64 0, .int .i64 0, .int .i64 0, .int .i64 0, .int .i64 0, .int .i64 0, .int .i64 0] := by unfold madeCells; rw [show Array.range 8 = #[0, 1, 2, 3, 4, 5, 6, 7] from by decide]; simp
set_option maxHeartbeats 8000000 in
set_option maxRecDepth 100000 in
theorem best_closed (gl gw : Nat) (w : World) (HL : w.heap[gl]? = some (.cells #[.int .i64 1, .int .i64 10, .bool false, .slice none 0 0, .int .i64 2, .int .i64 20, .bool false, .slice none 0 0] 45 (0, 0))) (HW : w.heap[gw]? = some (.cells #[.bool false, .bool false] 4 (0, 0))) : Calls Try.prog 24 #[.slice (some ⟨gl, 0, none⟩) 2 2, .slice (some ⟨gw, 0, none⟩) 2 2] w fun e w' => ∃ gb capb cb, e = .returned (.slice (some ⟨gb, 0, none⟩) 2 capb) ∧ w'.heap[gb]? = some (.cells cb 91 (0, 0)) ∧ cb[0]? = some (.int .i64 1) ∧ cb[1]? = some (.int .i64 1) ∧ cb[2]? = some (.int .i64 0) ∧ cb[3]? = some (.int .i64 10) ∧ cb[4]? = some (.int .i64 2) ∧ cb[5]? = some (.int .i64 2) ∧ cb[6]? = some (.int .i64 0) ∧ cb[7]? = some (.int .i64 20) ∧ Below w.heap.size w w' := by
  have hB := Below.refl w.heap.size w
  have hmk : ∀ W : World, (Instr.makeSlice 28 (.int .i64 2) (.int .i64 2)).run Try.prog W = .ok (.slice (some ⟨W.heap.size, 0, none⟩) 2 2) (W.alloc (.cells #[.int .i64 0, .int .i64 0] 3 (0, 0))) := by
    intro W
    have h := print_make_int (P := Try.prog) 28 3 (.int .i64 0) 8 Try.underlying28 (by kernel_rfl) rfl (by decide) 2 (by decide) (by decide) W
    exact madeI ▸ h
  have hmk2 : ∀ W : World, (Instr.makeSlice 47 (.int .i64 2) (.int .i64 2)).run Try.prog W = .ok (.slice (some ⟨W.heap.size, 0, none⟩) 2 2) (W.alloc (.cells #[.int .i64 0, .int .i64 0, .int .i64 0, .int .i64 0, .int .i64 0, .int .i64 0, .int .i64 0, .int .i64 0] 91 (0, 0))) := by
    intro W
    obtain ⟨i0, hi, hzz⟩ := Option.map_eq_some_iff.1 info91
    simp only [Prod.mk.injEq] at hzz
    obtain ⟨hz, hs, hb⟩ := hzz
    have h := run_make (P := Try.prog) W 47 91 i0 _ Try.underlying47 hi hz .i64 .i64 2 2 (by decide) (by decide) (by rw [hb]; decide) (by decide)
    rw [hs] at h
    exact h.trans (congrArg (fun z => Result.ok (Value.slice (some ⟨W.heap.size, 0, none⟩) 2 2) (W.alloc (.cells z 91 (0, 0)))) madeS)
  go_enter Try.func24, Try.ntmps24
  go_wp2
  refine start_ (n := 11) (S := fun w' => True) (ds := []) #[false, false, false, false, false, false, false, false, false, false, false] (by kernel_rfl) rfl rfl trivial (fun hHeld => ?_)
  have hB : Below w.heap.size w w.drew := below_drew1 (Below.refl _ _)
  have HL : w.drew.heap[gl]? = _ := HL
  have HW : w.drew.heap[gw]? = _ := HW
  generalize w.drew = w1 at HL HW hB hHeld ⊢
  have eA := blk_alloc (blk_new w1 (.cells #[.int .i64 0, .int .i64 0] 3 (0, 0))) (.cells #[.int .i64 0, .int .i64 0, .int .i64 0, .int .i64 0, .int .i64 0, .int .i64 0, .int .i64 0, .int .i64 0] 91 (0, 0))
  have eB := blk_new (w1.alloc (.cells #[.int .i64 0, .int .i64 0] 3 (0, 0))) (.cells #[.int .i64 0, .int .i64 0, .int .i64 0, .int .i64 0, .int .i64 0, .int .i64 0, .int .i64 0, .int .i64 0] 91 (0, 0))
  rw [show (w1.alloc (.cells #[.int .i64 0, .int .i64 0] 3 (0, 0))).heap.size = w1.heap.size + 1 from Array.size_push _] at eB
  have eB2 := blk_alloc (blk_new w1 (.cells #[.int .i64 0, .int .i64 0, .int .i64 0, .int .i64 0, .int .i64 0, .int .i64 0, .int .i64 0, .int .i64 0] 91 (0, 0))) (.cells #[.int .i64 0, .int .i64 0] 3 (0, 0))
  have eA2 := blk_new (w1.alloc (.cells #[.int .i64 0, .int .i64 0, .int .i64 0, .int .i64 0, .int .i64 0, .int .i64 0, .int .i64 0, .int .i64 0] 91 (0, 0))) (.cells #[.int .i64 0, .int .i64 0] 3 (0, 0))
  rw [show (w1.alloc (.cells #[.int .i64 0, .int .i64 0, .int .i64 0, .int .i64 0, .int .i64 0, .int .i64 0, .int .i64 0, .int .i64 0] 91 (0, 0))).heap.size = w1.heap.size + 1 from Array.size_push _] at eA2
  refine pu_ (v := ?_) (a' := ?_) 0 (some 9) rfl rfl (by kernel_rfl) (fun _ _ _ h => h) (.inl ⟨by rfl, ?_⟩) ?_ ?_
  rotate_left
  · intro
    go_simp
    with_reducible rfl
  rotate_left
  · simp only [Act.put, zA, zB, zC, i64_w]
    rfl
  refine pu_ (v := ?_) (a' := ?_) 1 (some 10) rfl rfl (by kernel_rfl) (fun _ _ _ h => h) (.inl ⟨by rfl, ?_⟩) ?_ ?_
  rotate_left
  · intro
    go_simp
    with_reducible rfl
  rotate_left
  · simp only [Act.put, zA, zB, zC, i64_w]
    rfl
  refine pu_ (v := ?_) (a' := ?_) 2 (some 11) rfl rfl (by kernel_rfl) (fun _ _ _ h => h) (.inl ⟨by rfl, ?_⟩) ?_ ?_
  rotate_left
  · intro
    go_simp
    with_reducible rfl
  rotate_left
  · simp only [Act.put, zA, zB, zC, i64_w]
    rfl
  refine pu_ (v := ?_) (a' := ?_) 3 (some 12) rfl rfl (by kernel_rfl) (fun _ _ _ h => h) (.inl ⟨by rfl, ?_⟩) ?_ ?_
  rotate_left
  · intro
    go_simp
    with_reducible rfl
  rotate_left
  · simp only [Act.put, zA, zB, zC, i64_w]
    rfl
  refine pu_ (v := ?_) (a' := ?_) 5 (some 14) rfl rfl (by kernel_rfl) (fun _ _ _ h => h) (.inl ⟨by rfl, ?_⟩) ?_ ?_
  rotate_left
  · intro
    go_simp
    with_reducible rfl
  rotate_left
  · simp only [Act.put, zA, zB, zC, i64_w]
    rfl
  refine pu_ (v := ?_) (a' := ?_) 6 (some 15) rfl rfl (by kernel_rfl) (fun _ _ _ h => h) (.inl ⟨by rfl, ?_⟩) ?_ ?_
  rotate_left
  · intro
    go_simp
    with_reducible rfl
  rotate_left
  · simp only [Act.put, zA, zB, zC, i64_w]
    rfl
  refine join_ (σ := Nat × Nat) 3 #[true, true, true, true, true, true, true, true, false, false, false] (fun s : Nat × Nat => [(13, .slice (some ⟨s.1, 0, none⟩) 2 2), (16, .slice (some ⟨s.2, 0, none⟩) 2 2)]) (fun s w' => w'.heap[s.1]? = some (.cells #[.int .i64 0, .int .i64 0] 3 (0, 0)) ∧ w'.heap[s.2]? = some (.cells #[.int .i64 0, .int .i64 0, .int .i64 0, .int .i64 0, .int .i64 0, .int .i64 0, .int .i64 0, .int .i64 0] 91 (0, 0)) ∧ Below w.heap.size w w' ∧ w.heap.size ≤ s.1 ∧ w.heap.size ≤ s.2 ∧ w'.heap[gl]? = some (.cells #[.int .i64 1, .int .i64 10, .bool false, .slice none 0 0, .int .i64 2, .int .i64 20, .bool false, .slice none 0 0] 45 (0, 0)) ∧ w'.heap[gw]? = some (.cells #[.bool false, .bool false] 4 (0, 0))) ?_ ?_
  rotate_left
  · intro hCont
    refine two_ (i := 4) (j := 7) (Ni := some 13) (Nj := some 16) #[true, true, true, true, true, true, true, false, false, false, false] #[true, true, true, true, false, true, true, true, false, false, false] rfl rfl rfl rfl (by kernel_rfl) (by decide) (by decide) (fun K hK => ?_) (fun K hK => ?_)
    · skip
      refine value_ (w1 := ?_) (v := ?_) (by rfl) rfl ?_ ?_
      rotate_left 2
      · go_simp
        constructor
        · rfl
        · rfl
      refine hK.out _ _ trivial (fun hHeld => ?_)
      clear hK K
      refine norm_ (a' := ?_) ?_ ?_
      rotate_left
      · show Act.put _ (some 13) _ = _
        simp only [Act.put, List.setIfInBounds_toArray, List.set_cons_zero, List.set_cons_succ, i64_w, i32_w]
        rfl
      refine one_ (i := 7) (N := some 16) #[true, true, true, true, true, true, true, true, false, false, false] rfl rfl (by kernel_rfl) (by decide) (fun K hK => ?_)
      refine value_ (w1 := ?_) (v := ?_) (by rfl) rfl ?_ ?_
      rotate_left 2
      · go_simp
        constructor
        · rfl
        · rfl
      refine hK.out _ _ trivial (fun hHeld => ?_)
      clear hK K
      refine norm_ (a' := ?_) ?_ ?_
      rotate_left
      · show Act.put _ (some 16) _ = _
        simp only [Act.put, List.setIfInBounds_toArray, List.set_cons_zero, List.set_cons_succ, i64_w, i32_w]
        rfl
      exact norm_ (by simp only [putAll, Act.put, List.setIfInBounds_toArray, List.set_cons_zero, List.set_cons_succ]) (hCont (w1.heap.size, w1.heap.size + 1) _ ⟨eA, eB, below_alloc (below_alloc hB _) _, hB.size, Nat.le_succ_of_le hB.size, blk_alloc (blk_alloc HL _) _, blk_alloc (blk_alloc HW _) _⟩)
    · skip
      refine value_ (w1 := ?_) (v := ?_) (by rfl) rfl ?_ ?_
      rotate_left 2
      · go_simp
        constructor
        · rfl
        · rfl
      refine hK.out _ _ trivial (fun hHeld => ?_)
      clear hK K
      refine norm_ (a' := ?_) ?_ ?_
      rotate_left
      · show Act.put _ (some 16) _ = _
        simp only [Act.put, List.setIfInBounds_toArray, List.set_cons_zero, List.set_cons_succ, i64_w, i32_w]
        rfl
      refine one_ (i := 4) (N := some 13) #[true, true, true, true, true, true, true, true, false, false, false] rfl rfl (by kernel_rfl) (by decide) (fun K hK => ?_)
      refine value_ (w1 := ?_) (v := ?_) (by rfl) rfl ?_ ?_
      rotate_left 2
      · go_simp
        constructor
        · rfl
        · rfl
      refine hK.out _ _ trivial (fun hHeld => ?_)
      clear hK K
      refine norm_ (a' := ?_) ?_ ?_
      rotate_left
      · show Act.put _ (some 13) _ = _
        simp only [Act.put, List.setIfInBounds_toArray, List.set_cons_zero, List.set_cons_succ, i64_w, i32_w]
        rfl
      exact norm_ (by simp only [putAll, Act.put, List.setIfInBounds_toArray, List.set_cons_zero, List.set_cons_succ]) (hCont (w1.heap.size + 1, w1.heap.size) _ ⟨eA2, eB2, below_alloc (below_alloc hB _) _, Nat.le_succ_of_le hB.size, hB.size, blk_alloc (blk_alloc HL _) _, blk_alloc (blk_alloc HW _) _⟩)
  rintro ⟨gf, gp⟩ w2 ⟨HF, HP, hB2, hgf, hgp, HL2, HW2⟩
  clear eA eB eA2 eB2 HL HW hB
  have hHeld : True := trivial
  refine norm_ (a' := ?_) ?_ ?_
  rotate_left
  · simp only [putAll, Act.put, List.setIfInBounds_toArray, List.set_cons_zero, List.set_cons_succ]
    rfl
  refine pu_ (v := ?_) (a' := ?_) 8 (some 17) rfl rfl (by kernel_rfl) (fun _ _ _ h => h) (.inl ⟨by rfl, ?_⟩) ?_ ?_
  rotate_left
  · intro
    go_simp
    with_reducible rfl
  rotate_left
  · simp only [Act.put, zA, zB, zC, i64_w]
    rfl
  refine one_ (i := 9) (N := some 18) #[true, true, true, true, true, true, true, true, true, true, false] rfl rfl (by kernel_rfl) (by decide) (fun K hK => ?_)
  refine value_ (w1 := ?_) (v := ?_) (by rfl) rfl ?_ ?_
  rotate_left 2
  · go_simp
    constructor
    · rfl
    · rfl
  refine hK.out _ _ trivial (fun hHeld => ?_)
  clear hK K
  refine norm_ (a' := ?_) ?_ ?_
  rotate_left
  · show Act.put _ (some 18) _ = _
    simp only [Act.put, List.setIfInBounds_toArray, List.set_cons_zero, List.set_cons_succ, i64_w, i32_w]
    rfl
  refine pu_ (v := ?_) (a' := ?_) 10 (some 5) rfl rfl (by kernel_rfl) (fun _ _ _ h => h) (.inl ⟨by rfl, ?_⟩) ?_ ?_
  rotate_left
  · intro
    go_simp
    with_reducible rfl
  rotate_left
  · simp only [Act.put, zA, zB, zC, i64_w]
    rfl
  refine done_ (by kernel_rfl) ?_
  
  have HG := blk_new w2 (.cells #[.slice (some ⟨gl, 0, none⟩) 2 2, .slice (some ⟨gw, 0, none⟩) 2 2, .slice (some ⟨gf, 0, none⟩) 2 2, .slice (some ⟨gp, 0, none⟩) 2 2, .slice none 0 0, .int .i64 0] 75 (0, 0))
  have HF := blk_alloc HF (.cells #[.slice (some ⟨gl, 0, none⟩) 2 2, .slice (some ⟨gw, 0, none⟩) 2 2, .slice (some ⟨gf, 0, none⟩) 2 2, .slice (some ⟨gp, 0, none⟩) 2 2, .slice none 0 0, .int .i64 0] 75 (0, 0))
  have HP := blk_alloc HP (.cells #[.slice (some ⟨gl, 0, none⟩) 2 2, .slice (some ⟨gw, 0, none⟩) 2 2, .slice (some ⟨gf, 0, none⟩) 2 2, .slice (some ⟨gp, 0, none⟩) 2 2, .slice none 0 0, .int .i64 0] 75 (0, 0))
  have HL := blk_alloc HL2 (.cells #[.slice (some ⟨gl, 0, none⟩) 2 2, .slice (some ⟨gw, 0, none⟩) 2 2, .slice (some ⟨gf, 0, none⟩) 2 2, .slice (some ⟨gp, 0, none⟩) 2 2, .slice none 0 0, .int .i64 0] 75 (0, 0))
  have HW := blk_alloc HW2 (.cells #[.slice (some ⟨gl, 0, none⟩) 2 2, .slice (some ⟨gw, 0, none⟩) 2 2, .slice (some ⟨gf, 0, none⟩) 2 2, .slice (some ⟨gp, 0, none⟩) 2 2, .slice none 0 0, .int .i64 0] 75 (0, 0))
  have hg := hB2.size
  have hB := below_alloc hB2 (.cells #[.slice (some ⟨gl, 0, none⟩) 2 2, .slice (some ⟨gw, 0, none⟩) 2 2, .slice (some ⟨gf, 0, none⟩) 2 2, .slice (some ⟨gp, 0, none⟩) 2 2, .slice none 0 0, .int .i64 0] 75 (0, 0))
  generalize w2.alloc (.cells #[.slice (some ⟨gl, 0, none⟩) 2 2, .slice (some ⟨gw, 0, none⟩) 2 2, .slice (some ⟨gf, 0, none⟩) 2 2, .slice (some ⟨gp, 0, none⟩) 2 2, .slice none 0 0, .int .i64 0] 75 (0, 0)) = w3 at *
  generalize w2.heap.size = g at HG hg ⊢
  go_wp2_with (first | (go_at_call 36; refine (search_root g gl gw gf gp 0 0 w _ hB hg hgf hgp HG HF HP HL HW).mono ?_; rintro e w4 ⟨rfl, gb, capb, cb, HG', HF', HP', HL', HW', Hb, b0, b1, b2, b3, b4, b5, b6, b7, hbp, hK, hB'⟩; have g4 := (blk_cell HG' 4).trans (show _ = some _ from rfl)))
  (try simp only [Exit.inBlock, Exit.then])
  refine bodyPost_ret (results_tmp rfl _ _ _) rfl ?_
  exact ⟨gb, capb, cb, rfl, Hb, b0, b1, b2, b3, b4, b5, b6, b7, hB'⟩

end Go.Proofs.Ytefinjjcbpdljaa.PB
