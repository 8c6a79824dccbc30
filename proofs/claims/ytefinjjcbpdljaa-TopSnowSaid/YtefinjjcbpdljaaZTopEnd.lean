-- Written by a program of this session (wip/top/gen.py). Not trusted: Lean checks it.
import Derived.Test.YtefinjjcbpdljaaZPPxD
import Derived.Test.YtefinjjcbpdljaaZTopLeast
import Derived.Test.YtefinjjcbpdljaaZTopPlan
import Derived.Test.YtefinjjcbpdljaaZPPx23
import Derived.LoopN
import Derived.Lib.LazyBuf
namespace Go.Proofs.Ytefinjjcbpdljaa.PB
open Go.RowKit Go.Proofs.YtefinjjcbpdljaaW.PrintWords Go.Proofs.YtefinjjcbpdljaaW.PrintLast Go.Proofs.YtefinjjcbpdljaaW.PrintMore
attribute [local go_sem] max2_int min2_int max_two min_two max_three min_three max_four min_four   -- for this text's walks alone
set_option linter.unusedVariables false
set_option linter.unusedSimpArgs false

theorem assign_val : assign_Best.f 20 [[5, 1], [1, 5]] = some ([1, 0], 2, 0) := by kernel_rfl
set_option maxHeartbeats 8000000 in
set_option maxRecDepth 100000 in
theorem cost_C {w : World} {g a b : Nat} (h : w.heap[g]? = some (.cells #[.slice (some ⟨a, 0, none⟩) 2 2, .slice (some ⟨b, 0, none⟩) 2 2] 28 (0, 0))) (ha : w.heap[a]? = some (.cells #[.int .i64 5, .int .i64 1] 3 (0, 0))) (hb : w.heap[b]? = some (.cells #[.int .i64 1, .int .i64 5] 3 (0, 0))) : Kd.C (Kd.slice 3 (Kd.int .i64)) w (some ⟨g, 0, none⟩) 2 [[5, 1], [1, 5]] := by
  refine ⟨rfl, by decide, fun _ => ⟨⟨g, 0, none⟩, rfl, fun j p hj => ?_⟩⟩
  match j, hj with
  | 0, hj =>
    cases hj
    refine ⟨[.slice (some ⟨a, 0, none⟩) 2 2], rfl, ⟨some ⟨a, 0, none⟩, 2, rfl, by decide, int_C ha rfl rfl⟩, fun i u hu => ?_⟩
    match i, hu with
    | 0, hu =>
      cases hu
      exact (blk_cell h 0).trans rfl
  | 1, hj =>
    cases hj
    refine ⟨[.slice (some ⟨b, 0, none⟩) 2 2], rfl, ⟨some ⟨b, 0, none⟩, 2, rfl, by decide, int_C hb rfl rfl⟩, fun i u hu => ?_⟩
    match i, hu with
    | 0, hu =>
      cases hu
      exact (blk_cell h 1).trans rfl

set_option maxHeartbeats 8000000 in
set_option maxRecDepth 100000 in
theorem sec_C {w : World} {g : Nat} (h : w.heap[g]? = some (.cells #[.int .i64 1, .int .i64 3, .int .i64 10, .int .i64 2, .int .i64 1, .int .i64 15] 54 (0, 0))) : Kd.C k54 w (some ⟨g, 0, none⟩) 2 ([⟨1, 3, 10⟩, ⟨2, 1, 15⟩] : List S54) := by
  refine ⟨rfl, by decide, fun _ => ⟨⟨g, 0, none⟩, rfl, fun j p hj => ?_⟩⟩
  match j, hj with
  | 0, hj =>
    cases hj
    refine ⟨[.int .i64 1, .int .i64 3, .int .i64 10], rfl, k54_mk _ ⟨1, 3, 10⟩, fun i u hu => ?_⟩
    match i, hu with
    | 0, hu =>
      cases hu
      exact (blk_cell h 0).trans rfl
    | 1, hu =>
      cases hu
      exact (blk_cell h 1).trans rfl
    | 2, hu =>
      cases hu
      exact (blk_cell h 2).trans rfl
  | 1, hj =>
    cases hj
    refine ⟨[.int .i64 2, .int .i64 1, .int .i64 15], rfl, k54_mk _ ⟨2, 1, 15⟩, fun i u hu => ?_⟩
    match i, hu with
    | 0, hu =>
      cases hu
      exact (blk_cell h 3).trans rfl
    | 1, hu =>
      cases hu
      exact (blk_cell h 4).trans rfl
    | 2, hu =>
      cases hu
      exact (blk_cell h 5).trans rfl

theorem blk_second (w : World) (a b : Obj) : ((w.alloc a).alloc b).heap[w.heap.size + 1]? = some b := by
  have h := blk_new (w.alloc a) b
  rwa [show (w.alloc a).heap.size = w.heap.size + 1 from Array.size_push _] at h
theorem blk_third (w : World) (a b c : Obj) : (((w.alloc a).alloc b).alloc c).heap[w.heap.size + 2]? = some c := by
  have h := blk_second (w.alloc a) b c
  rwa [show (w.alloc a).heap.size = w.heap.size + 1 from Array.size_push _] at h

set_option maxHeartbeats 8000000 in
set_option maxRecDepth 100000 in
theorem alive_closed (w : World) : Calls Try.prog 11 #[] w fun e w' => e = .returned (.bool true) ∧ Below w.heap.size w w' := by
  go_enter Try.func11, Try.ntmps11
  go_wp2_with (first | (go_at_call 24; refine (best_closed w.heap.size (w.heap.size + 1) _ (blk_alloc (blk_new w (.cells #[.int .i64 1, .int .i64 10, .bool false, .slice none 0 0, .int .i64 2, .int .i64 20, .bool false, .slice none 0 0] 45 (0, 0))) (.cells #[.bool false, .bool false] 4 (0, 0))) (blk_second w (.cells #[.int .i64 1, .int .i64 10, .bool false, .slice none 0 0, .int .i64 2, .int .i64 20, .bool false, .slice none 0 0] 45 (0, 0)) (.cells #[.bool false, .bool false] 4 (0, 0)))).mono ?_; rintro e w2 ⟨gb, capb, cb, rfl, Hb, b0, b1, b2, b3, b4, b5, b6, b7, hb⟩; have HL2 := blk_below (blk_alloc (blk_new w (.cells #[.int .i64 1, .int .i64 10, .bool false, .slice none 0 0, .int .i64 2, .int .i64 20, .bool false, .slice none 0 0] 45 (0, 0))) (.cells #[.bool false, .bool false] 4 (0, 0))) hb; have hB2 := below_then (below_alloc (below_alloc (Below.refl w.heap.size w) (.cells #[.int .i64 1, .int .i64 10, .bool false, .slice none 0 0, .int .i64 2, .int .i64 20, .bool false, .slice none 0 0] 45 (0, 0))) (.cells #[.bool false, .bool false] 4 (0, 0))) (below_alloc (below_alloc (Below.refl w.heap.size w) (.cells #[.int .i64 1, .int .i64 10, .bool false, .slice none 0 0, .int .i64 2, .int .i64 20, .bool false, .slice none 0 0] 45 (0, 0))) (.cells #[.bool false, .bool false] 4 (0, 0))).size hb) | (go_at_call 25; refine (plan_closed ⟨w2.heap.size, 0, none⟩ 2 _ (sec_C (blk_new w2 (.cells #[.int .i64 1, .int .i64 3, .int .i64 10, .int .i64 2, .int .i64 1, .int .i64 15] 54 (0, 0)))) (by decide)).mono ?_; rintro e w3 ⟨gj, capj, rfl, hb3⟩; have HL3 := blk_below (blk_alloc HL2 (.cells #[.int .i64 1, .int .i64 3, .int .i64 10, .int .i64 2, .int .i64 1, .int .i64 15] 54 (0, 0))) hb3; have hB3 := below_then (below_alloc hB2 (.cells #[.int .i64 1, .int .i64 3, .int .i64 10, .int .i64 2, .int .i64 1, .int .i64 15] 54 (0, 0))) (below_alloc hB2 (.cells #[.int .i64 1, .int .i64 3, .int .i64 10, .int .i64 2, .int .i64 1, .int .i64 15] 54 (0, 0))).size hb3) | (go_at_call 26; refine (assign_Best.calls 20 (some ⟨w3.heap.size + 2, 0, none⟩) 2 [[5, 1], [1, 5]] [1, 0] 2 0 _ (cost_C (blk_third w3 (.cells #[.int .i64 5, .int .i64 1] 3 (0, 0)) (.cells #[.int .i64 1, .int .i64 5] 3 (0, 0)) (.cells #[.slice (some ⟨w3.heap.size, 0, none⟩) 2 2, .slice (some ⟨w3.heap.size + 1, 0, none⟩) 2 2] 28 (0, 0))) (blk_alloc (blk_alloc (blk_new w3 (.cells #[.int .i64 5, .int .i64 1] 3 (0, 0))) (.cells #[.int .i64 1, .int .i64 5] 3 (0, 0))) (.cells #[.slice (some ⟨w3.heap.size, 0, none⟩) 2 2, .slice (some ⟨w3.heap.size + 1, 0, none⟩) 2 2] 28 (0, 0))) (blk_alloc (blk_second w3 (.cells #[.int .i64 5, .int .i64 1] 3 (0, 0)) (.cells #[.int .i64 1, .int .i64 5] 3 (0, 0))) (.cells #[.slice (some ⟨w3.heap.size, 0, none⟩) 2 2, .slice (some ⟨w3.heap.size + 1, 0, none⟩) 2 2] 28 (0, 0)))) (by decide) assign_val).mono ?_; rintro e w4 ⟨v4, rfl, hR4, hb4⟩; have HL4 := blk_below (blk_alloc (blk_alloc (blk_alloc HL3 (.cells #[.int .i64 5, .int .i64 1] 3 (0, 0))) (.cells #[.int .i64 1, .int .i64 5] 3 (0, 0))) (.cells #[.slice (some ⟨w3.heap.size, 0, none⟩) 2 2, .slice (some ⟨w3.heap.size + 1, 0, none⟩) 2 2] 28 (0, 0))) hb4; have hB4 := below_then (below_alloc (below_alloc (below_alloc hB3 (.cells #[.int .i64 5, .int .i64 1] 3 (0, 0))) (.cells #[.int .i64 1, .int .i64 5] 3 (0, 0))) (.cells #[.slice (some ⟨w3.heap.size, 0, none⟩) 2 2, .slice (some ⟨w3.heap.size + 1, 0, none⟩) 2 2] 28 (0, 0))) (below_alloc (below_alloc (below_alloc hB3 (.cells #[.int .i64 5, .int .i64 1] 3 (0, 0))) (.cells #[.int .i64 1, .int .i64 5] 3 (0, 0))) (.cells #[.slice (some ⟨w3.heap.size, 0, none⟩) 2 2, .slice (some ⟨w3.heap.size + 1, 0, none⟩) 2 2] 28 (0, 0))).size hb4) | (go_at_call 27; refine (least_closed w.heap.size w4.heap.size _ (blk_alloc HL4 (.cells #[.bool false, .bool false] 4 (0, 0))) (blk_new w4 (.cells #[.bool false, .bool false] 4 (0, 0)))).mono ?_; rintro e w5 ⟨rfl, hb5⟩; have hB5 := below_then (below_alloc hB4 (.cells #[.bool false, .bool false] 4 (0, 0))) (below_alloc hB4 (.cells #[.bool false, .bool false] 4 (0, 0))).size hb5))
  (try simp only [Exit.inBlock, Exit.then])
  refine bodyPost_ret (results_tmp rfl _ _ _) rfl ?_
  exact ⟨rfl, hB5⟩

end Go.Proofs.Ytefinjjcbpdljaa.PB
