-- Written by a program of this session (wip/top/gen.py). Not trusted: Lean checks it.
import Derived.Test.YtefinjjcbpdljaaZPPxD
import Derived.Test.YtefinjjcbpdljaaZTopBest
import Derived.LoopN
import Derived.Lib.LazyBuf
namespace Go.Proofs.Ytefinjjcbpdljaa.PB
open Go.RowKit Go.Proofs.YtefinjjcbpdljaaW.PrintWords Go.Proofs.YtefinjjcbpdljaaW.PrintLast Go.Proofs.YtefinjjcbpdljaaW.PrintMore
attribute [local go_sem] max2_int min2_int max_two min_two max_three min_three max_four min_four   -- for this text's walks alone
set_option linter.unusedVariables false
set_option linter.unusedSimpArgs false

set_option maxHeartbeats 8000000 in
set_option maxRecDepth 100000 in
theorem end_closed (gb capb : Nat) (cb : Array Value) (w : World) (Hb : w.heap[gb]? = some (.cells cb 91 (0, 0))) (b0 : cb[0]? = some (.int .i64 1)) (b1 : cb[1]? = some (.int .i64 1)) (b2 : cb[2]? = some (.int .i64 0)) (b3 : cb[3]? = some (.int .i64 10)) (b4 : cb[4]? = some (.int .i64 2)) (b5 : cb[5]? = some (.int .i64 2)) (b6 : cb[6]? = some (.int .i64 0)) (b7 : cb[7]? = some (.int .i64 20)) : Calls Try.prog 41 #[.slice (some ⟨gb, 0, none⟩) 2 capb] w fun e w' => e = .returned (.int .i64 20) ∧ Below w.heap.size w w' := by
  have HB := Below.refl w.heap.size w
  have hw0 : wrap64 0 = 0 := by unfold wrap64; omega
  have hw1 : wrap64 1 = 1 := by unfold wrap64; omega
  have hw2 : wrap64 2 = 2 := by unfold wrap64; omega
  have hw10 : wrap64 10 = 10 := by unfold wrap64; omega
  have hw20 : wrap64 20 = 20 := by unfold wrap64; omega
  have c0 := (blk_cell Hb 0).trans b0
  have c1 := (blk_cell Hb 1).trans b1
  have c2 := (blk_cell Hb 2).trans b2
  have c3 := (blk_cell Hb 3).trans b3
  have c4 := (blk_cell Hb 4).trans b4
  have c5 := (blk_cell Hb 5).trans b5
  have c6 := (blk_cell Hb 6).trans b6
  have c7 := (blk_cell Hb 7).trans b7
  go_enter Try.func41, Try.ntmps41
  go_wp2
  refine wp_loop_rounds 3 ?_
  rw [rounds_succ]
  have HX := blk_new w (.cells #[.int .i64 1, .int .i64 1, .int .i64 0, .int .i64 10] 91 (0, 0))
  have x3 := (blk_cell HX 3).trans (show _ = some _ from rfl)
  go_wp2
  clear x3 HX c0 c1 c2 c3 c4 c5 c6 c7
  replace Hb := blk_alloc Hb (.cells #[.int .i64 1, .int .i64 1, .int .i64 0, .int .i64 10] 91 (0, 0))
  replace HB := below_alloc HB (.cells #[.int .i64 1, .int .i64 1, .int .i64 0, .int .i64 10] 91 (0, 0))
  generalize hgw : w.alloc (.cells #[.int .i64 1, .int .i64 1, .int .i64 0, .int .i64 10] 91 (0, 0)) = w1 at Hb HB ⊢
  clear hgw
  have c0 := (blk_cell Hb 0).trans b0
  have c1 := (blk_cell Hb 1).trans b1
  have c2 := (blk_cell Hb 2).trans b2
  have c3 := (blk_cell Hb 3).trans b3
  have c4 := (blk_cell Hb 4).trans b4
  have c5 := (blk_cell Hb 5).trans b5
  have c6 := (blk_cell Hb 6).trans b6
  have c7 := (blk_cell Hb 7).trans b7
  rw [rounds_succ]
  have HX := blk_new w1 (.cells #[.int .i64 2, .int .i64 2, .int .i64 0, .int .i64 20] 91 (0, 0))
  have x3 := (blk_cell HX 3).trans (show _ = some _ from rfl)
  go_wp2
  clear x3 HX c0 c1 c2 c3 c4 c5 c6 c7
  replace Hb := blk_alloc Hb (.cells #[.int .i64 2, .int .i64 2, .int .i64 0, .int .i64 20] 91 (0, 0))
  replace HB := below_alloc HB (.cells #[.int .i64 2, .int .i64 2, .int .i64 0, .int .i64 20] 91 (0, 0))
  generalize hgw : w1.alloc (.cells #[.int .i64 2, .int .i64 2, .int .i64 0, .int .i64 20] 91 (0, 0)) = w2 at Hb HB ⊢
  clear hgw
  have c0 := (blk_cell Hb 0).trans b0
  have c1 := (blk_cell Hb 1).trans b1
  have c2 := (blk_cell Hb 2).trans b2
  have c3 := (blk_cell Hb 3).trans b3
  have c4 := (blk_cell Hb 4).trans b4
  have c5 := (blk_cell Hb 5).trans b5
  have c6 := (blk_cell Hb 6).trans b6
  have c7 := (blk_cell Hb 7).trans b7
  rw [rounds_succ]
  go_wp2
  (try simp only [Exit.inBlock, Exit.then])
  refine bodyPost_ret (results_tmp rfl _ _ _) rfl ?_
  exact ⟨rfl, HB⟩

set_option maxHeartbeats 8000000 in
set_option maxRecDepth 100000 in
theorem least_closed (gl gw : Nat) (w : World) (HL : w.heap[gl]? = some (.cells #[.int .i64 1, .int .i64 10, .bool false, .slice none 0 0, .int .i64 2, .int .i64 20, .bool false, .slice none 0 0] 45 (0, 0))) (HW : w.heap[gw]? = some (.cells #[.bool false, .bool false] 4 (0, 0))) : Calls Try.prog 27 #[.slice (some ⟨gl, 0, none⟩) 2 2, .slice (some ⟨gw, 0, none⟩) 2 2] w fun e w' => e = .returned (.int .i64 20) ∧ Below w.heap.size w w' := by
  go_enter Try.func27, Try.ntmps27
  go_wp2_with (first | (go_at_call 24; refine (best_closed gl gw _ HL HW).mono ?_; rintro e w1 ⟨gb, capb, cb, rfl, Hb, b0, b1, b2, b3, b4, b5, b6, b7, hb⟩) | (go_at_call 41; refine (end_closed gb capb cb _ Hb b0 b1 b2 b3 b4 b5 b6 b7).mono ?_; rintro e w2 ⟨rfl, hb2⟩))
  (try simp only [Exit.inBlock, Exit.then])
  refine bodyPost_ret (results_tmp rfl _ _ _) rfl ?_
  exact ⟨rfl, below_then hb hb.size hb2⟩

end Go.Proofs.Ytefinjjcbpdljaa.PB
