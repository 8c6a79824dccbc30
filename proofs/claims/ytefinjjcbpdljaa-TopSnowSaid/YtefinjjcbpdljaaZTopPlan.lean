-- Written by a program of this session (wip/top/gen.py). Not trusted: Lean checks it.
import Derived.Test.YtefinjjcbpdljaaZPPxD
import Derived.Test.YtefinjjcbpdljaaZTopBase
import Derived.Test.YtefinjjcbpdljaaZTopZero
import Derived.Test.YtefinjjcbpdljaaZTopShort
import Derived.LoopN
import Derived.Lib.LazyBuf
namespace Go.Proofs.Ytefinjjcbpdljaa.PB
open Go.RowKit Go.Proofs.YtefinjjcbpdljaaW.PrintWords Go.Proofs.YtefinjjcbpdljaaW.PrintLast Go.Proofs.YtefinjjcbpdljaaW.PrintMore
attribute [local go_sem] max2_int min2_int max_two min_two max_three min_three max_four min_four   -- for this text's walks alone
set_option linter.unusedVariables false
set_option linter.unusedSimpArgs false

theorem made2 : madeCells #[.int .i64 0] 2 = #[.int .i64 0, .int .i64 0] := by unfold madeCells; rw [show Array.range 2 = #[0, 1] from by decide]; simp [Nat.mod_one]
theorem info82 : (Try.prog.info? 82).map (fun i => (i.zero, i.size, i.bytes)) = some (some (.agg #[(.int .i64 0), (.int .i64 0), (.int .i64 0), (.int .i64 0)]), 4, 32) := by kernel_rfl
set_option maxHeartbeats 8000000 in
set_option maxRecDepth 100000 in
theorem plan_closed (ad : Addr) (c0 : Nat) (w : World) (hr : Kd.C k54 w (some ad) 2 ([⟨1, 3, 10⟩, ⟨2, 1, 15⟩] : List S54)) (hc : 2 ≤ c0) : Calls Try.prog 25 #[.slice (some ad) 2 c0, .int .i64 2] w fun e w' => ∃ g cap, e = .returned (.tuple #[.slice (some ⟨g, 0, none⟩) 2 cap, .int .i64 15, .int .i64 0]) ∧ Below w.heap.size w w' := by
  have HB := Aside0.mk (Below.refl w.heap.size w)
  have hmk : ∀ W : World, (Instr.makeSlice 28 (.int .i64 2) (.int .i64 2)).run Try.prog W = .ok (.slice (some ⟨W.heap.size, 0, none⟩) 2 2) (W.alloc (.cells #[.int .i64 0, .int .i64 0] 3)) := by
    intro W
    have h := print_make_int (P := Try.prog) 28 3 (.int .i64 0) 8 Try.underlying28 (by kernel_rfl) rfl (by decide) 2 (by decide) (by decide) W
    exact made2 ▸ h
  go_enter Try.func25, Try.ntmps25
  go_upto_region 7 with (first | (go_at_call 37; refine (needing_closed ad c0 _ hr hc).mono ?_; rintro e w1 ⟨gs, cap, cs, rfl, hgs, hcap, Hs, k0, k1, k2, k3, k4, k5, hb⟩))
  have HA := blk_new w1 (.cells #[.slice (some ⟨gs, 0, none⟩) 2 cap, .slice (some ⟨w1.heap.size + 1, 0, none⟩) 2 2, .int .i64 0, .int .i64 0, .int .i64 0, .int .i64 0, .slice none 0 0, .int .i64 0] 80 (0, 0))
  have hz : (w1.alloc (.cells #[.slice (some ⟨gs, 0, none⟩) 2 cap, .slice (some ⟨w1.heap.size + 1, 0, none⟩) 2 2, .int .i64 0, .int .i64 0, .int .i64 0, .int .i64 0, .slice none 0 0, .int .i64 0] 80 (0, 0))).heap.size = w1.heap.size + 1 := Array.size_push _
  have HT := blk_new (w1.alloc (.cells #[.slice (some ⟨gs, 0, none⟩) 2 cap, .slice (some ⟨w1.heap.size + 1, 0, none⟩) 2 2, .int .i64 0, .int .i64 0, .int .i64 0, .int .i64 0, .slice none 0 0, .int .i64 0] 80 (0, 0))) (.cells #[.int .i64 0, .int .i64 0] 3 (0, 0))
  rw [hz] at HT
  have HG := blk_alloc HA (.cells #[.int .i64 0, .int .i64 0] 3 (0, 0))
  replace Hs := blk_alloc (blk_alloc Hs (.cells #[.slice (some ⟨gs, 0, none⟩) 2 cap, .slice (some ⟨w1.heap.size + 1, 0, none⟩) 2 2, .int .i64 0, .int .i64 0, .int .i64 0, .int .i64 0, .slice none 0 0, .int .i64 0] 80 (0, 0))) (.cells #[.int .i64 0, .int .i64 0] 3 (0, 0))
  have hB := below_alloc (below_alloc hb (.cells #[.slice (some ⟨gs, 0, none⟩) 2 cap, .slice (some ⟨w1.heap.size + 1, 0, none⟩) 2 2, .int .i64 0, .int .i64 0, .int .i64 0, .int .i64 0, .slice none 0 0, .int .i64 0] 80 (0, 0))) (.cells #[.int .i64 0, .int .i64 0] 3 (0, 0))
  have hg : w.heap.size ≤ w1.heap.size := hb.size
  have hgt : w.heap.size ≤ w1.heap.size + 1 := Nat.le_succ_of_le hg
  have Ngt : w1.heap.size ≠ w1.heap.size + 1 := by omega
  have Ngs : w1.heap.size ≠ gs := blk_ne HG Hs (by decide)
  go_upto_region 10 with (first | (go_at_call 38; refine (try_zero w1.heap.size gs (w1.heap.size + 1) cap 0 0 cs w _ hB hg hgt HG HT Hs k0 k1 k2 k3 k4 k5).mono ?_; rintro e w2 ⟨rfl, gb1, capb1, cb1, HG', HT', Hs', Hb', b0, b1, hbt, hB'⟩; clear HG HT Hs hB HA hz hb Ngt Ngs))
  generalize w1.heap.size + 1 = gt at *
  generalize w1.heap.size = g at *
  have HA := blk_new w2 (.cells #[.int .i64 0, .int .i64 0, .int .i64 0, .int .i64 0] 78 (0, 0))
  have hga : w.heap.size ≤ w2.heap.size := hB'.size
  have HG := blk_alloc HG' (.cells #[.int .i64 0, .int .i64 0, .int .i64 0, .int .i64 0] 78 (0, 0))
  have Hs := blk_alloc Hs' (.cells #[.int .i64 0, .int .i64 0, .int .i64 0, .int .i64 0] 78 (0, 0))
  have Hb := blk_alloc Hb' (.cells #[.int .i64 0, .int .i64 0, .int .i64 0, .int .i64 0] 78 (0, 0))
  have hB := below_alloc hB' (.cells #[.int .i64 0, .int .i64 0, .int .i64 0, .int .i64 0] 78 (0, 0))
  clear HG' Hs' Hb' HT' hB'
  generalize w2.alloc (.cells #[.int .i64 0, .int .i64 0, .int .i64 0, .int .i64 0] 78 (0, 0)) = w3 at *
  generalize w2.heap.size = ga at *
  have Nga : g ≠ ga := blk_ne HG HA (by decide)
  have Nsa : gs ≠ ga := blk_ne Hs HA (by decide)
  have Nba : gb1 ≠ ga := blk_ne Hb HA (by decide)
  obtain ⟨g0, g1, g2, g3, g4, g5, g6, g7⟩ := cl8 HG
  obtain ⟨s0, s1, s2, s3, s4, s5⟩ := sc6 Hs k0 k1 k2 k3 k4 k5
  have bb0 := (blk_cell Hb 0).trans b0
  have bb1 := (blk_cell Hb 1).trans b1
  obtain ⟨a0, a1, a2, a3⟩ := cl4 HA
  go_wp2
  refine wp_loop_rounds 3 ?_
  rw [rounds_succ]
  have HX := blk_new w3 (.cells #[.int .i64 1, .int .i64 3, .int .i64 10] 54 (0, 0))
  have qHG := blk_alloc HG (.cells #[.int .i64 1, .int .i64 3, .int .i64 10] 54 (0, 0))
  have qHs := blk_alloc Hs (.cells #[.int .i64 1, .int .i64 3, .int .i64 10] 54 (0, 0))
  have qHb := blk_alloc Hb (.cells #[.int .i64 1, .int .i64 3, .int .i64 10] 54 (0, 0))
  have qHA := blk_alloc HA (.cells #[.int .i64 1, .int .i64 3, .int .i64 10] 54 (0, 0))
  have y6 := (blk_cell qHG 6).trans (show _ = some _ from rfl)
  have y0 := (blk_cell qHb 0).trans b0
  go_wp2
  clear g0 g1 g2 g3 g4 g5 g6 g7 s0 s1 s2 s3 s4 s5 bb0 bb1 a0 a1 a2 a3
  clear y6 y0 HG Hs Hb HA
  have HG := qHG
  have Hs := qHs
  have Hb := qHb
  have HA := qHA
  clear qHG qHs qHb qHA
  replace hB := below_alloc hB (.cells #[.int .i64 1, .int .i64 3, .int .i64 10] 54 (0, 0))
  generalize w3.alloc (.cells #[.int .i64 1, .int .i64 3, .int .i64 10] 54 (0, 0)) = w3x at *
  generalize w3.heap.size = gx0 at *
  have Nxa0 : gx0 ≠ ga := blk_ne HX HA (by decide)
  obtain ⟨g0, g1, g2, g3, g4, g5, g6, g7⟩ := cl8 HG
  obtain ⟨s0, s1, s2, s3, s4, s5⟩ := sc6 Hs k0 k1 k2 k3 k4 k5
  have bb0 := (blk_cell Hb 0).trans b0
  have bb1 := (blk_cell Hb 1).trans b1
  obtain ⟨a0, a1, a2, a3⟩ := cl4 HA
  obtain ⟨x0, x1, x2⟩ := cl3 HX
  refine start_ (n := 17) (S := fun w' => w'.cell? ⟨gx0, 0, none⟩ = some (.int .i64 1) ∧ w'.cell? ⟨gx0, 2, none⟩ = some (.int .i64 10) ∧ w'.cell? ⟨ga, 1, none⟩ = some (.int .i64 0)) (ds := [14, 15]) #[false, false, false, false, false, false, false, false, false, false, false, false, false, false, false, false, false] (by kernel_rfl) rfl rfl ⟨x0, x2, a1⟩ (fun hHeld => ?_)
  have hwr : wrap64 10 = 10 := by unfold wrap64; omega
  rw [dh_ w3x] at HG Hs Hb HA HX
  replace hB := below_drew1 hB
  clear g0 g1 g2 g3 g4 g5 g6 g7 s0 s1 s2 s3 s4 s5 bb0 bb1 a0 a1 a2 a3 x0 x1 x2
  generalize w3x.drew = w3d at *
  obtain ⟨g0, g1, g2, g3, g4, g5, g6, g7⟩ := cl8 HG
  obtain ⟨s0, s1, s2, s3, s4, s5⟩ := sc6 Hs k0 k1 k2 k3 k4 k5
  have bb0 := (blk_cell Hb 0).trans b0
  have bb1 := (blk_cell Hb 1).trans b1
  obtain ⟨a0, a1, a2, a3⟩ := cl4 HA
  obtain ⟨x0, x1, x2⟩ := cl3 HX
  refine pu_ (v := ?_) (a' := ?_) 0 (some 46) rfl rfl (by kernel_rfl) (fun _ _ _ h => h) (.inl ⟨by rfl, ?_⟩) ?_ ?_
  rotate_left
  · intro
    go_simp
    with_reducible rfl
  rotate_left
  · simp only [Act.put, zA, zB, zC, i64_w]
    rfl
  refine pu_ (v := ?_) (a' := ?_) 1 (some 47) rfl rfl (by kernel_rfl) (fun _ _ _ h => h) (.inl ⟨by rfl, ?_⟩) ?_ ?_
  rotate_left
  · intro
    go_simp
    with_reducible rfl
  rotate_left
  · simp only [Act.put, zA, zB, zC, i64_w]
    rfl
  refine pu_ (v := ?_) (a' := ?_) 2 (some 48) rfl rfl (by kernel_rfl) (fun _ _ _ h => h) (.inl ⟨by rfl, ?_⟩) ?_ ?_
  rotate_left
  · intro
    go_simp
    with_reducible rfl
  rotate_left
  · simp only [Act.put, zA, zB, zC, i64_w]
    rfl
  refine pu_ (v := ?_) (a' := ?_) 4 (some 50) rfl rfl (by kernel_rfl) (fun _ _ _ h => h) (.inl ⟨by rfl, ?_⟩) ?_ ?_
  rotate_left
  · intro
    go_simp
    with_reducible rfl
  rotate_left
  · simp only [Act.put, zA, zB, zC, i64_w]
    rfl
  refine pu_ (v := ?_) (a' := ?_) 5 (some 51) rfl rfl (by kernel_rfl) (fun _ _ _ h => h) (.inl ⟨by rfl, ?_⟩) ?_ ?_
  rotate_left
  · intro
    go_simp
    with_reducible rfl
  rotate_left
  · simp only [Act.put, zA, zB, zC, i64_w]
    rfl
  refine pu_ (v := ?_) (a' := ?_) 7 (some 53) rfl rfl (by kernel_rfl) (fun _ _ _ h => h) (.inl ⟨by rfl, ?_⟩) ?_ ?_
  rotate_left
  · intro
    go_simp
    with_reducible rfl
  rotate_left
  · simp only [Act.put, zA, zB, zC, i64_w]
    rfl
  refine pu_ (v := ?_) (a' := ?_) 8 (some 54) rfl rfl (by kernel_rfl) (fun _ _ _ h => h) (.inl ⟨by rfl, ?_⟩) ?_ ?_
  rotate_left
  · intro
    go_simp
    with_reducible rfl
  rotate_left
  · simp only [Act.put, zA, zB, zC, i64_w]
    rfl
  refine pu_ (v := ?_) (a' := ?_) 10 (some 56) rfl rfl (by kernel_rfl) (fun _ _ _ h => h) (.inl ⟨by rfl, ?_⟩) ?_ ?_
  rotate_left
  · intro
    go_simp
    with_reducible rfl
  rotate_left
  · simp only [Act.put, zA, zB, zC, i64_w]
    rfl
  refine tk_ (v := ?_) (a' := ?_) 3 (some 49) rfl rfl (by kernel_rfl) (fun _ _ _ h => h) hHeld (.inl ⟨by rfl, ?_⟩) ?_ ?_
  rotate_left
  · rintro w' ⟨s0, s1, s2⟩
    go_simp
    with_reducible rfl
  rotate_left
  · simp only [Act.put, zA, zB, zC, i64_w]
    rfl
  refine tk_ (v := ?_) (a' := ?_) 6 (some 52) rfl rfl (by kernel_rfl) (fun _ _ _ h => h) hHeld (.inl ⟨by rfl, ?_⟩) ?_ ?_
  rotate_left
  · rintro w' ⟨s0, s1, s2⟩
    go_simp
    with_reducible rfl
  rotate_left
  · simp only [Act.put, zA, zB, zC, i64_w]
    rfl
  refine tk_ (v := ?_) (a' := ?_) 9 (some 55) rfl rfl (by kernel_rfl) (fun _ _ _ h => h) hHeld (.inl ⟨by rfl, ?_⟩) ?_ ?_
  rotate_left
  · rintro w' ⟨s0, s1, s2⟩
    go_simp
    with_reducible rfl
  rotate_left
  · simp only [Act.put, zA, zB, zC, i64_w]
    rfl
  refine tk_ (v := ?_) (a' := ?_) 11 (some 57) rfl rfl (by kernel_rfl) (fun _ _ _ h => h) hHeld (.inl ⟨by rfl, ?_⟩) ?_ ?_
  rotate_left
  · rintro w' ⟨s0, s1, s2⟩
    go_simp
    with_reducible rfl
  rotate_left
  · simp only [Act.put, zA, zB, zC, i64_w]
    rfl
  refine pu_ (v := ?_) (a' := ?_) 12 (some 58) rfl rfl (by kernel_rfl) (fun _ _ _ h => h) (.inl ⟨by rfl, ?_⟩) ?_ ?_
  rotate_left
  · intro
    go_simp
    with_reducible rfl
  rotate_left
  · simp only [Act.put, zA, zB, zC, i64_w]
    rfl
  refine pu_ (v := ?_) (a' := ?_) 13 (some 59) rfl rfl (by kernel_rfl) (fun _ _ _ h => h) (.inl ⟨by rfl, ?_⟩) ?_ ?_
  rotate_left
  · intro
    go_simp
    with_reducible rfl
  rotate_left
  · simp only [Act.put, zA, zB, zC, i64_w]
    rfl
  refine last_ (i := 14) (N := some 60) #[true, true, true, true, true, true, true, true, true, true, true, true, true, true, true, false, false] rfl rfl (by kernel_rfl) (by decide) (fun K hK => ?_)
  refine value_ (w1 := ?_) (v := ?_) (by rfl) rfl ?_ ?_
  rotate_left 2
  · go_simp
    constructor
    · rfl
    · rfl
  refine hK.out _ _ ?_
  clear hK K
  refine norm_ (a' := ?_) ?_ ?_
  rotate_left
  · show Act.put _ (some 60) _ = _
    simp only [Act.put, List.setIfInBounds_toArray, List.set_cons_zero, List.set_cons_succ, i64_w, i32_w]
    rfl
  refine last_ (i := 15) (N := some 61) #[true, true, true, true, true, true, true, true, true, true, true, true, true, true, true, true, false] rfl rfl (by kernel_rfl) (by decide) (fun K hK => ?_)
  refine Kd.R_append_step k91 (w0 := w) w.heap.size (by rfl) (.tmp 46) (.tmp 60) 50 82 (.agg #[.int .i64 0, .int .i64 0, .int .i64 0, .int .i64 0]) 32 rfl Try.underlying50 info82 rfl (by decide) (by omega) (.slice none 0 0) ([] : List S91) ⟨1, 1, 0, 10⟩ [.int .i64 1, .int .i64 1, .int .i64 0, .int .i64 10] (fun _ => True) (fun _ => False) rfl rfl (k91_mkM _ _ _ ⟨1, 1, 0, 10⟩) (fun _ h => h.elim) (fun _ _ => trivial) ?aO hB (below_size hB) (by decide) ?_
  (case aO => exact Kd.R_nil _ _ _ _ _)
  intro vj0 w3j ho' hb' hg' hat'
  refine hK.out _ _ ?_
  clear hK K
  refine norm_ (a' := ?_) ?_ ?_
  rotate_left
  · show Act.put _ (some 61) _ = _
    simp only [Act.put, List.setIfInBounds_toArray, List.set_cons_zero, List.set_cons_succ, i64_w, i32_w]
    rfl
  refine pu_ (v := ?_) (a' := ?_) 16 (some 8) rfl rfl (by kernel_rfl) (fun _ _ _ h => h) (.inl ⟨by rfl, ?_⟩) ?_ ?_
  rotate_left
  · intro
    go_simp
    with_reducible rfl
  rotate_left
  · simp only [Act.put, zA, zB, zC, i64_w]
    rfl
  refine done_ (by kernel_rfl) ?_
  
  clear g0 g1 g2 g3 g4 g5 g6 g7 s0 s1 s2 s3 s4 s5 bb0 bb1 a0 a1 a2 a3 x0 x1 x2
  clear hwr
  have qHG := blk_grown HG hg' (by simp [Value.ownBlock])
  have qHs := blk_grown Hs hg' (by simp [Value.ownBlock])
  have qHb := blk_grown Hb hg' (by simp [Value.ownBlock])
  have qHA := blk_grown HA hg' (by simp [Value.ownBlock])
  have qHX := blk_grown HX hg' (by simp [Value.ownBlock])
  clear HG Hs Hb HA HX hB hat' hg'
  have HG := qHG
  have Hs := qHs
  have Hb := qHb
  have HA := qHA
  have HX := qHX
  clear qHG qHs qHb qHA qHX
  have hB := hb'
  have ho := ho'
  clear hb' ho'
  obtain ⟨gj0, capj0, rfl, hgj0, _, cj0, HJ⟩ := Kd.R_form ho (by simp)
  obtain ⟨g0, g1, g2, g3, g4, g5, g6, g7⟩ := cl8 HG
  obtain ⟨s0, s1, s2, s3, s4, s5⟩ := sc6 Hs k0 k1 k2 k3 k4 k5
  have bb0 := (blk_cell Hb 0).trans b0
  have bb1 := (blk_cell Hb 1).trans b1
  obtain ⟨a0, a1, a2, a3⟩ := cl4 HA
  obtain ⟨x0, x1, x2⟩ := cl3 HX
  go_wp2
  refine start_ (n := 8) (S := fun w' => w'.cell? ⟨ga, 1, none⟩ = some (.int .i64 0) ∧ w'.cell? ⟨gx0, 2, none⟩ = some (.int .i64 10)) (ds := [7]) #[false, false, false, false, false, false, false, false] (by kernel_rfl) rfl rfl ⟨a1, x2⟩ (fun hHeld => ?_)
  have hwr : wrap64 10 = 10 := by unfold wrap64; omega
  rw [dh_ w3j] at HG Hs Hb HA HX HJ
  replace hB := below_drew1 hB
  replace ho := Kd.R_drew ho
  clear g0 g1 g2 g3 g4 g5 g6 g7 s0 s1 s2 s3 s4 s5 bb0 bb1 a0 a1 a2 a3 x0 x1 x2
  generalize w3j.drew = w3jd at *
  obtain ⟨g0, g1, g2, g3, g4, g5, g6, g7⟩ := cl8 HG
  obtain ⟨s0, s1, s2, s3, s4, s5⟩ := sc6 Hs k0 k1 k2 k3 k4 k5
  have bb0 := (blk_cell Hb 0).trans b0
  have bb1 := (blk_cell Hb 1).trans b1
  obtain ⟨a0, a1, a2, a3⟩ := cl4 HA
  obtain ⟨x0, x1, x2⟩ := cl3 HX
  have fa := blk_frozen HA 1
  refine pu_ (v := ?_) (a' := ?_) 0 (some 62) rfl rfl (by kernel_rfl) (fun _ _ _ h => h) (.inl ⟨by rfl, ?_⟩) ?_ ?_
  rotate_left
  · intro
    go_simp
    with_reducible rfl
  rotate_left
  · simp only [Act.put, zA, zB, zC, i64_w]
    rfl
  refine pu_ (v := ?_) (a' := ?_) 1 (some 63) rfl rfl (by kernel_rfl) (fun _ _ _ h => h) (.inl ⟨by rfl, ?_⟩) ?_ ?_
  rotate_left
  · intro
    go_simp
    with_reducible rfl
  rotate_left
  · simp only [Act.put, zA, zB, zC, i64_w]
    rfl
  refine pu_ (v := ?_) (a' := ?_) 3 (some 65) rfl rfl (by kernel_rfl) (fun _ _ _ h => h) (.inl ⟨by rfl, ?_⟩) ?_ ?_
  rotate_left
  · intro
    go_simp
    with_reducible rfl
  rotate_left
  · simp only [Act.put, zA, zB, zC, i64_w]
    rfl
  refine tk_ (v := ?_) (a' := ?_) 2 (some 64) rfl rfl (by kernel_rfl) (fun _ _ _ h => h) hHeld (.inl ⟨by rfl, ?_⟩) ?_ ?_
  rotate_left
  · rintro w' ⟨s0, s1⟩
    go_simp
    with_reducible rfl
  rotate_left
  · simp only [Act.put, zA, zB, zC, i64_w]
    rfl
  refine tk_ (v := ?_) (a' := ?_) 4 (some 66) rfl rfl (by kernel_rfl) (fun _ _ _ h => h) hHeld (.inl ⟨by rfl, ?_⟩) ?_ ?_
  rotate_left
  · rintro w' ⟨s0, s1⟩
    go_simp
    with_reducible rfl
  rotate_left
  · simp only [Act.put, zA, zB, zC, i64_w]
    rfl
  refine pu_ (v := ?_) (a' := ?_) 5 (some 67) rfl rfl (by kernel_rfl) (fun _ _ _ h => h) (.inl ⟨by rfl, ?_⟩) ?_ ?_
  rotate_left
  · intro
    go_simp
    with_reducible rfl
  rotate_left
  · simp only [Act.put, zA, zB, zC, i64_w]
    rfl
  refine pu_ (v := ?_) (a' := ?_) 6 (some 68) rfl rfl (by kernel_rfl) (fun _ _ _ h => h) (.inl ⟨by rfl, ?_⟩) ?_ ?_
  rotate_left
  · intro
    go_simp
    with_reducible rfl
  rotate_left
  · simp only [Act.put, zA, zB, zC, i64_w]
    rfl
  refine last_ (i := 7) (N := none) #[true, true, true, true, true, true, true, true] rfl rfl (by kernel_rfl) (by decide) (fun K hK => ?_)
  refine skip_ (w1 := ?_) (by rfl) rfl ?_ ?_
  rotate_left
  · go_simp
    rfl
  refine hK.out _ _ ?_
  clear hK K
  refine done_ (by kernel_rfl) ?_
  
  clear g0 g1 g2 g3 g4 g5 g6 g7 s0 s1 s2 s3 s4 s5 bb0 bb1 a0 a1 a2 a3 x0 x1 x2
  clear hwr fa
  have Nja : gj0 ≠ ga := blk_ne HJ HA (by decide)
  have qHG := blk_far (p := ⟨ga, 1, none⟩) HG Nga (.int .i64 10)
  have qHs := blk_far (p := ⟨ga, 1, none⟩) Hs Nsa (.int .i64 10)
  have qHb := blk_far (p := ⟨ga, 1, none⟩) Hb Nba (.int .i64 10)
  have qHA := blk_put HA 1 (.int .i64 10) rfl
  have qHX := blk_far (p := ⟨ga, 1, none⟩) HX Nxa0 (.int .i64 10)
  have qHJ := blk_far (p := ⟨ga, 1, none⟩) HJ Nja (.int .i64 10)
  have qB := below_set (j := 1) (v := .int .i64 10) hB hga
  replace ho := Kd.R_set ho HA (by decide) 1 (.int .i64 10)
  clear HG Hs Hb HA HX HJ hB
  have HG := qHG
  have Hs := qHs
  have Hb := qHb
  have HA := qHA
  have HX := qHX
  have HJ := qHJ
  have hB := qB
  clear qB qHG qHs qHb qHA qHX qHJ
  generalize w3jd.setCell ⟨ga, 1, none⟩ (.int .i64 10) = w3js at *
  clear HX
  obtain ⟨g0, g1, g2, g3, g4, g5, g6, g7⟩ := cl8 HG
  obtain ⟨s0, s1, s2, s3, s4, s5⟩ := sc6 Hs k0 k1 k2 k3 k4 k5
  have bb0 := (blk_cell Hb 0).trans b0
  have bb1 := (blk_cell Hb 1).trans b1
  obtain ⟨a0, a1, a2, a3⟩ := cl4 HA
  go_wp2
  rw [rounds_succ]
  have HX := blk_new w3js (.cells #[.int .i64 2, .int .i64 1, .int .i64 15] 54 (0, 0))
  have qHG := blk_alloc HG (.cells #[.int .i64 2, .int .i64 1, .int .i64 15] 54 (0, 0))
  have qHs := blk_alloc Hs (.cells #[.int .i64 2, .int .i64 1, .int .i64 15] 54 (0, 0))
  have qHb := blk_alloc Hb (.cells #[.int .i64 2, .int .i64 1, .int .i64 15] 54 (0, 0))
  have qHA := blk_alloc HA (.cells #[.int .i64 2, .int .i64 1, .int .i64 15] 54 (0, 0))
  have qHJ := blk_alloc HJ (.cells #[.int .i64 2, .int .i64 1, .int .i64 15] 54 (0, 0))
  have y6 := (blk_cell qHG 6).trans (show _ = some _ from rfl)
  have y0 := (blk_cell qHb 1).trans b1
  go_wp2
  clear g0 g1 g2 g3 g4 g5 g6 g7 s0 s1 s2 s3 s4 s5 bb0 bb1 a0 a1 a2 a3
  clear y6 y0 HG Hs Hb HA HJ
  have HG := qHG
  have Hs := qHs
  have Hb := qHb
  have HA := qHA
  have HJ := qHJ
  clear qHG qHs qHb qHA qHJ
  replace hB := below_alloc hB (.cells #[.int .i64 2, .int .i64 1, .int .i64 15] 54 (0, 0))
  replace ho := Kd.R_alloc ho (.cells #[.int .i64 2, .int .i64 1, .int .i64 15] 54 (0, 0))
  generalize w3js.alloc (.cells #[.int .i64 2, .int .i64 1, .int .i64 15] 54 (0, 0)) = w3jsx at *
  generalize w3js.heap.size = gx1 at *
  have Nxa1 : gx1 ≠ ga := blk_ne HX HA (by decide)
  obtain ⟨g0, g1, g2, g3, g4, g5, g6, g7⟩ := cl8 HG
  obtain ⟨s0, s1, s2, s3, s4, s5⟩ := sc6 Hs k0 k1 k2 k3 k4 k5
  have bb0 := (blk_cell Hb 0).trans b0
  have bb1 := (blk_cell Hb 1).trans b1
  obtain ⟨a0, a1, a2, a3⟩ := cl4 HA
  obtain ⟨x0, x1, x2⟩ := cl3 HX
  refine start_ (n := 17) (S := fun w' => w'.cell? ⟨gx1, 0, none⟩ = some (.int .i64 2) ∧ w'.cell? ⟨gx1, 2, none⟩ = some (.int .i64 15) ∧ w'.cell? ⟨ga, 2, none⟩ = some (.int .i64 0)) (ds := [14, 15]) #[false, false, false, false, false, false, false, false, false, false, false, false, false, false, false, false, false] (by kernel_rfl) rfl rfl ⟨x0, x2, a2⟩ (fun hHeld => ?_)
  have hwr : wrap64 15 = 15 := by unfold wrap64; omega
  rw [dh_ w3jsx] at HG Hs Hb HA HJ HX
  replace hB := below_drew1 hB
  replace ho := Kd.R_drew ho
  clear g0 g1 g2 g3 g4 g5 g6 g7 s0 s1 s2 s3 s4 s5 bb0 bb1 a0 a1 a2 a3 x0 x1 x2
  generalize w3jsx.drew = w3jsd at *
  obtain ⟨g0, g1, g2, g3, g4, g5, g6, g7⟩ := cl8 HG
  obtain ⟨s0, s1, s2, s3, s4, s5⟩ := sc6 Hs k0 k1 k2 k3 k4 k5
  have bb0 := (blk_cell Hb 0).trans b0
  have bb1 := (blk_cell Hb 1).trans b1
  obtain ⟨a0, a1, a2, a3⟩ := cl4 HA
  obtain ⟨x0, x1, x2⟩ := cl3 HX
  refine pu_ (v := ?_) (a' := ?_) 0 (some 46) rfl rfl (by kernel_rfl) (fun _ _ _ h => h) (.inl ⟨by rfl, ?_⟩) ?_ ?_
  rotate_left
  · intro
    go_simp
    with_reducible rfl
  rotate_left
  · simp only [Act.put, zA, zB, zC, i64_w]
    rfl
  refine pu_ (v := ?_) (a' := ?_) 1 (some 47) rfl rfl (by kernel_rfl) (fun _ _ _ h => h) (.inl ⟨by rfl, ?_⟩) ?_ ?_
  rotate_left
  · intro
    go_simp
    with_reducible rfl
  rotate_left
  · simp only [Act.put, zA, zB, zC, i64_w]
    rfl
  refine pu_ (v := ?_) (a' := ?_) 2 (some 48) rfl rfl (by kernel_rfl) (fun _ _ _ h => h) (.inl ⟨by rfl, ?_⟩) ?_ ?_
  rotate_left
  · intro
    go_simp
    with_reducible rfl
  rotate_left
  · simp only [Act.put, zA, zB, zC, i64_w]
    rfl
  refine pu_ (v := ?_) (a' := ?_) 4 (some 50) rfl rfl (by kernel_rfl) (fun _ _ _ h => h) (.inl ⟨by rfl, ?_⟩) ?_ ?_
  rotate_left
  · intro
    go_simp
    with_reducible rfl
  rotate_left
  · simp only [Act.put, zA, zB, zC, i64_w]
    rfl
  refine pu_ (v := ?_) (a' := ?_) 5 (some 51) rfl rfl (by kernel_rfl) (fun _ _ _ h => h) (.inl ⟨by rfl, ?_⟩) ?_ ?_
  rotate_left
  · intro
    go_simp
    with_reducible rfl
  rotate_left
  · simp only [Act.put, zA, zB, zC, i64_w]
    rfl
  refine pu_ (v := ?_) (a' := ?_) 7 (some 53) rfl rfl (by kernel_rfl) (fun _ _ _ h => h) (.inl ⟨by rfl, ?_⟩) ?_ ?_
  rotate_left
  · intro
    go_simp
    with_reducible rfl
  rotate_left
  · simp only [Act.put, zA, zB, zC, i64_w]
    rfl
  refine pu_ (v := ?_) (a' := ?_) 8 (some 54) rfl rfl (by kernel_rfl) (fun _ _ _ h => h) (.inl ⟨by rfl, ?_⟩) ?_ ?_
  rotate_left
  · intro
    go_simp
    with_reducible rfl
  rotate_left
  · simp only [Act.put, zA, zB, zC, i64_w]
    rfl
  refine pu_ (v := ?_) (a' := ?_) 10 (some 56) rfl rfl (by kernel_rfl) (fun _ _ _ h => h) (.inl ⟨by rfl, ?_⟩) ?_ ?_
  rotate_left
  · intro
    go_simp
    with_reducible rfl
  rotate_left
  · simp only [Act.put, zA, zB, zC, i64_w]
    rfl
  refine tk_ (v := ?_) (a' := ?_) 3 (some 49) rfl rfl (by kernel_rfl) (fun _ _ _ h => h) hHeld (.inl ⟨by rfl, ?_⟩) ?_ ?_
  rotate_left
  · rintro w' ⟨s0, s1, s2⟩
    go_simp
    with_reducible rfl
  rotate_left
  · simp only [Act.put, zA, zB, zC, i64_w]
    rfl
  refine tk_ (v := ?_) (a' := ?_) 6 (some 52) rfl rfl (by kernel_rfl) (fun _ _ _ h => h) hHeld (.inl ⟨by rfl, ?_⟩) ?_ ?_
  rotate_left
  · rintro w' ⟨s0, s1, s2⟩
    go_simp
    with_reducible rfl
  rotate_left
  · simp only [Act.put, zA, zB, zC, i64_w]
    rfl
  refine tk_ (v := ?_) (a' := ?_) 9 (some 55) rfl rfl (by kernel_rfl) (fun _ _ _ h => h) hHeld (.inl ⟨by rfl, ?_⟩) ?_ ?_
  rotate_left
  · rintro w' ⟨s0, s1, s2⟩
    go_simp
    with_reducible rfl
  rotate_left
  · simp only [Act.put, zA, zB, zC, i64_w]
    rfl
  refine tk_ (v := ?_) (a' := ?_) 11 (some 57) rfl rfl (by kernel_rfl) (fun _ _ _ h => h) hHeld (.inl ⟨by rfl, ?_⟩) ?_ ?_
  rotate_left
  · rintro w' ⟨s0, s1, s2⟩
    go_simp
    with_reducible rfl
  rotate_left
  · simp only [Act.put, zA, zB, zC, i64_w]
    rfl
  refine pu_ (v := ?_) (a' := ?_) 12 (some 58) rfl rfl (by kernel_rfl) (fun _ _ _ h => h) (.inl ⟨by rfl, ?_⟩) ?_ ?_
  rotate_left
  · intro
    go_simp
    with_reducible rfl
  rotate_left
  · simp only [Act.put, zA, zB, zC, i64_w]
    rfl
  refine pu_ (v := ?_) (a' := ?_) 13 (some 59) rfl rfl (by kernel_rfl) (fun _ _ _ h => h) (.inl ⟨by rfl, ?_⟩) ?_ ?_
  rotate_left
  · intro
    go_simp
    with_reducible rfl
  rotate_left
  · simp only [Act.put, zA, zB, zC, i64_w]
    rfl
  refine last_ (i := 14) (N := some 60) #[true, true, true, true, true, true, true, true, true, true, true, true, true, true, true, false, false] rfl rfl (by kernel_rfl) (by decide) (fun K hK => ?_)
  refine value_ (w1 := ?_) (v := ?_) (by rfl) rfl ?_ ?_
  rotate_left 2
  · go_simp
    constructor
    · rfl
    · rfl
  refine hK.out _ _ ?_
  clear hK K
  refine norm_ (a' := ?_) ?_ ?_
  rotate_left
  · show Act.put _ (some 60) _ = _
    simp only [Act.put, List.setIfInBounds_toArray, List.set_cons_zero, List.set_cons_succ, i64_w, i32_w]
    rfl
  refine last_ (i := 15) (N := some 61) #[true, true, true, true, true, true, true, true, true, true, true, true, true, true, true, true, false] rfl rfl (by kernel_rfl) (by decide) (fun K hK => ?_)
  refine Kd.R_append_step k91 (w0 := w) w.heap.size (by rfl) (.tmp 46) (.tmp 60) 50 82 (.agg #[.int .i64 0, .int .i64 0, .int .i64 0, .int .i64 0]) 32 rfl Try.underlying50 info82 rfl (by decide) (by omega) (.slice (some ⟨gj0, 0, none⟩) 1 capj0) ([⟨1, 1, 0, 10⟩] : List S91) ⟨2, 2, 0, 15⟩ [.int .i64 2, .int .i64 2, .int .i64 0, .int .i64 15] (fun _ => True) (fun _ => False) rfl rfl (k91_mkM _ _ _ ⟨2, 2, 0, 15⟩) (fun _ h => h.elim) (fun _ _ => trivial) ?aO hB (below_size hB) (by decide) ?_
  (case aO => exact ho)
  intro vj1 w3jsj ho' hb' hg' hat'
  refine hK.out _ _ ?_
  clear hK K
  refine norm_ (a' := ?_) ?_ ?_
  rotate_left
  · show Act.put _ (some 61) _ = _
    simp only [Act.put, List.setIfInBounds_toArray, List.set_cons_zero, List.set_cons_succ, i64_w, i32_w]
    rfl
  refine pu_ (v := ?_) (a' := ?_) 16 (some 8) rfl rfl (by kernel_rfl) (fun _ _ _ h => h) (.inl ⟨by rfl, ?_⟩) ?_ ?_
  rotate_left
  · intro
    go_simp
    with_reducible rfl
  rotate_left
  · simp only [Act.put, zA, zB, zC, i64_w]
    rfl
  refine done_ (by kernel_rfl) ?_
  
  clear g0 g1 g2 g3 g4 g5 g6 g7 s0 s1 s2 s3 s4 s5 bb0 bb1 a0 a1 a2 a3 x0 x1 x2
  clear hwr
  have qHG := blk_grown HG hg' (by have := blk_ne HG HJ (by decide); simpa [Value.ownBlock] using this)
  have qHs := blk_grown Hs hg' (by have := blk_ne Hs HJ (by decide); simpa [Value.ownBlock] using this)
  have qHb := blk_grown Hb hg' (by have := blk_ne Hb HJ (by decide); simpa [Value.ownBlock] using this)
  have qHA := blk_grown HA hg' (by have := blk_ne HA HJ (by decide); simpa [Value.ownBlock] using this)
  have qHX := blk_grown HX hg' (by have := blk_ne HX HJ (by decide); simpa [Value.ownBlock] using this)
  clear HG Hs Hb HA HJ HX hB hat' hg' ho
  have HG := qHG
  have Hs := qHs
  have Hb := qHb
  have HA := qHA
  have HX := qHX
  clear qHG qHs qHb qHA qHX
  have hB := hb'
  have ho := ho'
  clear hb' ho'
  obtain ⟨gj1, capj1, rfl, hgj1, _, cj1, HJ⟩ := Kd.R_form ho (by simp)
  obtain ⟨g0, g1, g2, g3, g4, g5, g6, g7⟩ := cl8 HG
  obtain ⟨s0, s1, s2, s3, s4, s5⟩ := sc6 Hs k0 k1 k2 k3 k4 k5
  have bb0 := (blk_cell Hb 0).trans b0
  have bb1 := (blk_cell Hb 1).trans b1
  obtain ⟨a0, a1, a2, a3⟩ := cl4 HA
  obtain ⟨x0, x1, x2⟩ := cl3 HX
  go_wp2
  refine start_ (n := 8) (S := fun w' => w'.cell? ⟨ga, 2, none⟩ = some (.int .i64 0) ∧ w'.cell? ⟨gx1, 2, none⟩ = some (.int .i64 15)) (ds := [7]) #[false, false, false, false, false, false, false, false] (by kernel_rfl) rfl rfl ⟨a2, x2⟩ (fun hHeld => ?_)
  have hwr : wrap64 15 = 15 := by unfold wrap64; omega
  rw [dh_ w3jsj] at HG Hs Hb HA HX HJ
  replace hB := below_drew1 hB
  replace ho := Kd.R_drew ho
  clear g0 g1 g2 g3 g4 g5 g6 g7 s0 s1 s2 s3 s4 s5 bb0 bb1 a0 a1 a2 a3 x0 x1 x2
  generalize w3jsj.drew = w3jsjd at *
  obtain ⟨g0, g1, g2, g3, g4, g5, g6, g7⟩ := cl8 HG
  obtain ⟨s0, s1, s2, s3, s4, s5⟩ := sc6 Hs k0 k1 k2 k3 k4 k5
  have bb0 := (blk_cell Hb 0).trans b0
  have bb1 := (blk_cell Hb 1).trans b1
  obtain ⟨a0, a1, a2, a3⟩ := cl4 HA
  obtain ⟨x0, x1, x2⟩ := cl3 HX
  have fa := blk_frozen HA 2
  refine pu_ (v := ?_) (a' := ?_) 0 (some 62) rfl rfl (by kernel_rfl) (fun _ _ _ h => h) (.inl ⟨by rfl, ?_⟩) ?_ ?_
  rotate_left
  · intro
    go_simp
    with_reducible rfl
  rotate_left
  · simp only [Act.put, zA, zB, zC, i64_w]
    rfl
  refine pu_ (v := ?_) (a' := ?_) 1 (some 63) rfl rfl (by kernel_rfl) (fun _ _ _ h => h) (.inl ⟨by rfl, ?_⟩) ?_ ?_
  rotate_left
  · intro
    go_simp
    with_reducible rfl
  rotate_left
  · simp only [Act.put, zA, zB, zC, i64_w]
    rfl
  refine pu_ (v := ?_) (a' := ?_) 3 (some 65) rfl rfl (by kernel_rfl) (fun _ _ _ h => h) (.inl ⟨by rfl, ?_⟩) ?_ ?_
  rotate_left
  · intro
    go_simp
    with_reducible rfl
  rotate_left
  · simp only [Act.put, zA, zB, zC, i64_w]
    rfl
  refine tk_ (v := ?_) (a' := ?_) 2 (some 64) rfl rfl (by kernel_rfl) (fun _ _ _ h => h) hHeld (.inl ⟨by rfl, ?_⟩) ?_ ?_
  rotate_left
  · rintro w' ⟨s0, s1⟩
    go_simp
    with_reducible rfl
  rotate_left
  · simp only [Act.put, zA, zB, zC, i64_w]
    rfl
  refine tk_ (v := ?_) (a' := ?_) 4 (some 66) rfl rfl (by kernel_rfl) (fun _ _ _ h => h) hHeld (.inl ⟨by rfl, ?_⟩) ?_ ?_
  rotate_left
  · rintro w' ⟨s0, s1⟩
    go_simp
    with_reducible rfl
  rotate_left
  · simp only [Act.put, zA, zB, zC, i64_w]
    rfl
  refine pu_ (v := ?_) (a' := ?_) 5 (some 67) rfl rfl (by kernel_rfl) (fun _ _ _ h => h) (.inl ⟨by rfl, ?_⟩) ?_ ?_
  rotate_left
  · intro
    go_simp
    with_reducible rfl
  rotate_left
  · simp only [Act.put, zA, zB, zC, i64_w]
    rfl
  refine pu_ (v := ?_) (a' := ?_) 6 (some 68) rfl rfl (by kernel_rfl) (fun _ _ _ h => h) (.inl ⟨by rfl, ?_⟩) ?_ ?_
  rotate_left
  · intro
    go_simp
    with_reducible rfl
  rotate_left
  · simp only [Act.put, zA, zB, zC, i64_w]
    rfl
  refine last_ (i := 7) (N := none) #[true, true, true, true, true, true, true, true] rfl rfl (by kernel_rfl) (by decide) (fun K hK => ?_)
  refine skip_ (w1 := ?_) (by rfl) rfl ?_ ?_
  rotate_left
  · go_simp
    rfl
  refine hK.out _ _ ?_
  clear hK K
  refine done_ (by kernel_rfl) ?_
  
  clear g0 g1 g2 g3 g4 g5 g6 g7 s0 s1 s2 s3 s4 s5 bb0 bb1 a0 a1 a2 a3 x0 x1 x2
  clear hwr fa
  have Nja : gj1 ≠ ga := blk_ne HJ HA (by decide)
  have qHG := blk_far (p := ⟨ga, 2, none⟩) HG Nga (.int .i64 15)
  have qHs := blk_far (p := ⟨ga, 2, none⟩) Hs Nsa (.int .i64 15)
  have qHb := blk_far (p := ⟨ga, 2, none⟩) Hb Nba (.int .i64 15)
  have qHA := blk_put HA 2 (.int .i64 15) rfl
  have qHX := blk_far (p := ⟨ga, 2, none⟩) HX Nxa1 (.int .i64 15)
  have qHJ := blk_far (p := ⟨ga, 2, none⟩) HJ Nja (.int .i64 15)
  have qB := below_set (j := 2) (v := .int .i64 15) hB hga
  replace ho := Kd.R_set ho HA (by decide) 2 (.int .i64 15)
  clear HG Hs Hb HA HX HJ hB
  have HG := qHG
  have Hs := qHs
  have Hb := qHb
  have HA := qHA
  have HX := qHX
  have HJ := qHJ
  have hB := qB
  clear qB qHG qHs qHb qHA qHX qHJ
  generalize w3jsjd.setCell ⟨ga, 2, none⟩ (.int .i64 15) = w3jsjs at *
  clear HX
  obtain ⟨g0, g1, g2, g3, g4, g5, g6, g7⟩ := cl8 HG
  obtain ⟨s0, s1, s2, s3, s4, s5⟩ := sc6 Hs k0 k1 k2 k3 k4 k5
  have bb0 := (blk_cell Hb 0).trans b0
  have bb1 := (blk_cell Hb 1).trans b1
  obtain ⟨a0, a1, a2, a3⟩ := cl4 HA
  go_wp2
  rw [rounds_succ]
  go_wp2
  go_quiet (fail)
  go_wp2
  (try simp only [Exit.inBlock, Exit.then])
  refine bodyPost_ret (results_tmp3 rfl _ _ _) rfl ?_
  exact ⟨gj1, capj1, rfl, by first | exact hB | exact pw_below_drewN hB _⟩

end Go.Proofs.Ytefinjjcbpdljaa.PB
