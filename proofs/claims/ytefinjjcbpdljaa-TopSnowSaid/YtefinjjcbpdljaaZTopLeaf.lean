-- Written by a program of this session (wip/top/gen.py). Not trusted: Lean checks it.
import Derived.Test.YtefinjjcbpdljaaZPPxD
import Derived.Test.YtefinjjcbpdljaaZTopBase
import Derived.Test.YtefinjjcbpdljaaZTopShort
import Derived.LoopN
import Derived.Lib.LazyBuf
namespace Go.Proofs.Ytefinjjcbpdljaa.PB
open Go.RowKit Go.Proofs.YtefinjjcbpdljaaW.PrintWords Go.Proofs.YtefinjjcbpdljaaW.PrintLast Go.Proofs.YtefinjjcbpdljaaW.PrintMore
attribute [local go_sem] max2_int min2_int max_two min_two max_three min_three max_four min_four   -- for this text's walks alone
set_option linter.unusedVariables false
set_option linter.unusedSimpArgs false

set_option maxHeartbeats 8000000 in
set_option maxRecDepth 100000 in
theorem int_row {w : World} {base : Nat} {ok : Nat → Prop} {v : Value} {a b : Int} (h : Kd.R (Kd.int .i64) 3 w base ok v [a, b]) : ∃ g cap cs, v = .slice (some ⟨g, 0, none⟩) 2 cap ∧ base ≤ g ∧ 2 ≤ cap ∧ w.heap[g]? = some (.cells cs 3 (0, 0)) ∧ cs[0]? = some (.int .i64 a) ∧ cs[1]? = some (.int .i64 b) := by
  obtain ⟨g, cap, rfl, hg, _, cs, hcs⟩ := Kd.R_form h (by simp)
  obtain ⟨_, hcap, hC⟩ := Kd.R_reads' h
  refine ⟨g, cap, cs, rfl, hg, hcap, hcs, ?_⟩
  obtain ⟨ad0, e0, x0⟩ := Kd.at_int hC 0 (by omega) (by simp)
  obtain ⟨ad1, e1, x1⟩ := Kd.at_int hC 1 (by omega) (by simp)
  cases e0
  cases e1
  exact ⟨(blk_cell hcs 0).symm.trans x0, (blk_cell hcs 1).symm.trans x1⟩

set_option maxHeartbeats 8000000 in
set_option maxRecDepth 100000 in
theorem int_C {w : World} {g : Nat} {a b : Int} {cs : Array Value} (h : w.heap[g]? = some (.cells cs 3 (0, 0))) (k0 : cs[0]? = some (.int .i64 a)) (k1 : cs[1]? = some (.int .i64 b)) : Kd.C (Kd.int .i64) w (some ⟨g, 0, none⟩) 2 [a, b] := by
  refine ⟨rfl, by decide, fun _ => ⟨⟨g, 0, none⟩, rfl, fun j p hj => ?_⟩⟩
  match j, hj with
  | 0, hj =>
    cases hj
    refine ⟨[.int .i64 a], rfl, rfl, fun i u hu => ?_⟩
    match i, hu with
    | 0, hu =>
      cases hu
      exact (blk_cell h 0).trans k0
  | 1, hj =>
    cases hj
    refine ⟨[.int .i64 b], rfl, rfl, fun i u hu => ?_⟩
    match i, hu with
    | 0, hu =>
      cases hu
      exact (blk_cell h 1).trans k1

set_option maxHeartbeats 8000000 in
set_option maxRecDepth 100000 in
theorem try_set_a (g gs gt cap gb cb : Nat) (cs : Array Value) (w0 w : World) (hB : Below w0.heap.size w0 w) (hg : w0.heap.size ≤ g) (hgt : w0.heap.size ≤ gt) (HG : w.heap[g]? = some (.cells #[.slice (some ⟨gs, 0, none⟩) 2 cap, .slice (some ⟨gt, 0, none⟩) 2 2, .int .i64 0, .int .i64 25, .int .i64 0, .int .i64 0, .slice none 0 0, .int .i64 0] 80 (0, 0))) (HT : w.heap[gt]? = some (.cells #[.int .i64 1, .int .i64 1] 3 (0, 0))) (Hs : w.heap[gs]? = some (.cells cs 54 (0, 0))) (k0 : cs[0]? = some (.int .i64 1)) (k1 : cs[1]? = some (.int .i64 3)) (k2 : cs[2]? = some (.int .i64 10)) (k3 : cs[3]? = some (.int .i64 2)) (k4 : cs[4]? = some (.int .i64 1)) (k5 : cs[5]? = some (.int .i64 15)) : Calls Try.prog 38 #[.pointer (some ⟨g, 0, none⟩), .int .i64 2, .int .i64 2] w fun e w' => e = .returned (.tuple #[]) ∧ ∃ gb capb cb, w'.heap[g]? = some (.cells #[.slice (some ⟨gs, 0, none⟩) 2 cap, .slice (some ⟨gt, 0, none⟩) 2 2, .int .i64 0, .int .i64 25, .int .i64 0, .int .i64 0, .slice (some ⟨gb, 0, none⟩) 2 capb, .int .i64 25] 80 (0, 0)) ∧ w'.heap[gt]? = some (.cells #[.int .i64 1, .int .i64 1] 3 (0, 0)) ∧ w'.heap[gs]? = some (.cells cs 54 (0, 0)) ∧ w'.heap[gb]? = some (.cells cb 3 (0, 0)) ∧ cb[0]? = some (.int .i64 1) ∧ cb[1]? = some (.int .i64 1) ∧ gb ≠ gt ∧ Below w0.heap.size w0 w' := by
  have Ngt : g ≠ gt := blk_ne HG HT (by decide)
  have Ngs : g ≠ gs := blk_ne HG Hs (by decide)
  obtain ⟨g0, g1, g2, g3, g4, g5, g6, g7⟩ := cl8 HG
  obtain ⟨t0, t1⟩ := cl2 HT
  have hnil : ∀ (w : World), (binOp .neq 28 (.slice none 0 0) (.slice none 0 0)).run Try.prog w = .ok (.bool false) w := fun w => run_neq_slice_nil w 28 3 none 0 0 Try.underlying28
  have hnn : ∀ (w : World), (binOp .neq 28 (.slice (some ⟨gb, 0, none⟩) 2 cb) (.slice none 0 0)).run Try.prog w = .ok (.bool true) w := fun w => run_neq_slice_nil w 28 3 (some ⟨gb, 0, none⟩) 2 cb Try.underlying28
  go_enter Try.func38, Try.ntmps38
  go_wp2
  go_quiet (fail)
  go_wp2_with (first | (go_at_call 49; refine (clone_int ⟨gt, 0, none⟩ 2 ([1, 1] : List Int) _ (int_C (blk_drewN HT _) rfl rfl) (by decide) (by decide)).mono ?_; rintro e w1 ⟨v, rfl, hR, hb⟩; obtain ⟨gn, capn, cn, rfl, hgn, hcn, Hn, n0, n1⟩ := int_row hR; have nB := hB; have qG := blk_below (blk_drewN HG _) hb; have qT := blk_below (blk_drewN HT _) hb; have qs := blk_below (blk_drewN Hs _) hb; have qB := Aside0.mk (below_then (pw_below_drewN hB _) hB.size hb); have hng : gn ≠ g := Nat.ne_of_gt (Nat.lt_of_lt_of_le (blk_lt HG) hgn); have hne : gn ≠ gt := Nat.ne_of_gt (Nat.lt_of_lt_of_le (blk_lt HT) hgn); clear HG HT Hs hb hR g0 g1 g2 g3 g4 g5 g6 g7 t0 t1; have f6 := blk_frozen qG 6; have f7 := blk_frozen qG 7; obtain ⟨g0, g1, g2, g3, g4, g5, g6, g7⟩ := cl8 qG))
  (try simp only [Exit.inBlock, Exit.then])
  refine bodyPost_ret (results_none rfl _ _ _) rfl ?_
  exact ⟨rfl, gn, capn, cn, blk_put (blk_put qG 6 _ rfl) 7 _ rfl, blk_far (blk_far qT Ngt.symm _) Ngt.symm _, blk_far (blk_far qs Ngs.symm _) Ngs.symm _, blk_far (blk_far Hn hng _) hng _, n0, n1, hne, (qB.out.setCell hg _).setCell hg _⟩

set_option maxHeartbeats 8000000 in
set_option maxRecDepth 100000 in
theorem try_set_b (g gs gt cap gb cb : Nat) (cs : Array Value) (w0 w : World) (hB : Below w0.heap.size w0 w) (hg : w0.heap.size ≤ g) (hgt : w0.heap.size ≤ gt) (HG : w.heap[g]? = some (.cells #[.slice (some ⟨gs, 0, none⟩) 2 cap, .slice (some ⟨gt, 0, none⟩) 2 2, .int .i64 0, .int .i64 10, .int .i64 15, .int .i64 0, .slice (some ⟨gb, 0, none⟩) 2 cb, .int .i64 25] 80 (0, 0))) (HT : w.heap[gt]? = some (.cells #[.int .i64 1, .int .i64 2] 3 (0, 0))) (Hs : w.heap[gs]? = some (.cells cs 54 (0, 0))) (k0 : cs[0]? = some (.int .i64 1)) (k1 : cs[1]? = some (.int .i64 3)) (k2 : cs[2]? = some (.int .i64 10)) (k3 : cs[3]? = some (.int .i64 2)) (k4 : cs[4]? = some (.int .i64 1)) (k5 : cs[5]? = some (.int .i64 15)) : Calls Try.prog 38 #[.pointer (some ⟨g, 0, none⟩), .int .i64 2, .int .i64 2] w fun e w' => e = .returned (.tuple #[]) ∧ ∃ gb capb cb, w'.heap[g]? = some (.cells #[.slice (some ⟨gs, 0, none⟩) 2 cap, .slice (some ⟨gt, 0, none⟩) 2 2, .int .i64 0, .int .i64 10, .int .i64 15, .int .i64 0, .slice (some ⟨gb, 0, none⟩) 2 capb, .int .i64 15] 80 (0, 0)) ∧ w'.heap[gt]? = some (.cells #[.int .i64 1, .int .i64 2] 3 (0, 0)) ∧ w'.heap[gs]? = some (.cells cs 54 (0, 0)) ∧ w'.heap[gb]? = some (.cells cb 3 (0, 0)) ∧ cb[0]? = some (.int .i64 1) ∧ cb[1]? = some (.int .i64 2) ∧ gb ≠ gt ∧ Below w0.heap.size w0 w' := by
  have Ngt : g ≠ gt := blk_ne HG HT (by decide)
  have Ngs : g ≠ gs := blk_ne HG Hs (by decide)
  obtain ⟨g0, g1, g2, g3, g4, g5, g6, g7⟩ := cl8 HG
  obtain ⟨t0, t1⟩ := cl2 HT
  have hnil : ∀ (w : World), (binOp .neq 28 (.slice none 0 0) (.slice none 0 0)).run Try.prog w = .ok (.bool false) w := fun w => run_neq_slice_nil w 28 3 none 0 0 Try.underlying28
  have hnn : ∀ (w : World), (binOp .neq 28 (.slice (some ⟨gb, 0, none⟩) 2 cb) (.slice none 0 0)).run Try.prog w = .ok (.bool true) w := fun w => run_neq_slice_nil w 28 3 (some ⟨gb, 0, none⟩) 2 cb Try.underlying28
  go_enter Try.func38, Try.ntmps38
  go_wp2
  go_quiet (fail)
  go_wp2_with (first | (go_at_call 49; refine (clone_int ⟨gt, 0, none⟩ 2 ([1, 2] : List Int) _ (int_C (blk_drewN HT _) rfl rfl) (by decide) (by decide)).mono ?_; rintro e w1 ⟨v, rfl, hR, hb⟩; obtain ⟨gn, capn, cn, rfl, hgn, hcn, Hn, n0, n1⟩ := int_row hR; have nB := hB; have qG := blk_below (blk_drewN HG _) hb; have qT := blk_below (blk_drewN HT _) hb; have qs := blk_below (blk_drewN Hs _) hb; have qB := Aside0.mk (below_then (pw_below_drewN hB _) hB.size hb); have hng : gn ≠ g := Nat.ne_of_gt (Nat.lt_of_lt_of_le (blk_lt HG) hgn); have hne : gn ≠ gt := Nat.ne_of_gt (Nat.lt_of_lt_of_le (blk_lt HT) hgn); clear HG HT Hs hb hR g0 g1 g2 g3 g4 g5 g6 g7 t0 t1; have f6 := blk_frozen qG 6; have f7 := blk_frozen qG 7; obtain ⟨g0, g1, g2, g3, g4, g5, g6, g7⟩ := cl8 qG))
  (try simp only [Exit.inBlock, Exit.then])
  refine bodyPost_ret (results_none rfl _ _ _) rfl ?_
  exact ⟨rfl, gn, capn, cn, blk_put (blk_put qG 6 _ rfl) 7 _ rfl, blk_far (blk_far qT Ngt.symm _) Ngt.symm _, blk_far (blk_far qs Ngs.symm _) Ngs.symm _, blk_far (blk_far Hn hng _) hng _, n0, n1, hne, (qB.out.setCell hg _).setCell hg _⟩

set_option maxHeartbeats 8000000 in
set_option maxRecDepth 100000 in
theorem try_prune_a (g gs gt cap gb cb : Nat) (cs : Array Value) (w0 w : World) (hB : Below w0.heap.size w0 w) (hg : w0.heap.size ≤ g) (hgt : w0.heap.size ≤ gt) (HG : w.heap[g]? = some (.cells #[.slice (some ⟨gs, 0, none⟩) 2 cap, .slice (some ⟨gt, 0, none⟩) 2 2, .int .i64 0, .int .i64 15, .int .i64 10, .int .i64 0, .slice (some ⟨gb, 0, none⟩) 2 cb, .int .i64 15] 80 (0, 0))) (HT : w.heap[gt]? = some (.cells #[.int .i64 2, .int .i64 1] 3 (0, 0))) (Hs : w.heap[gs]? = some (.cells cs 54 (0, 0))) (k0 : cs[0]? = some (.int .i64 1)) (k1 : cs[1]? = some (.int .i64 3)) (k2 : cs[2]? = some (.int .i64 10)) (k3 : cs[3]? = some (.int .i64 2)) (k4 : cs[4]? = some (.int .i64 1)) (k5 : cs[5]? = some (.int .i64 15)) : Calls Try.prog 38 #[.pointer (some ⟨g, 0, none⟩), .int .i64 2, .int .i64 2] w fun e w' => e = .returned (.tuple #[]) ∧ Below w.heap.size w w' := by
  obtain ⟨g0, g1, g2, g3, g4, g5, g6, g7⟩ := cl8 HG
  have hnn : ∀ (w : World), (binOp .neq 28 (.slice (some ⟨gb, 0, none⟩) 2 cb) (.slice none 0 0)).run Try.prog w = .ok (.bool true) w := fun w => run_neq_slice_nil w 28 3 (some ⟨gb, 0, none⟩) 2 cb Try.underlying28
  go_enter Try.func38, Try.ntmps38
  go_wp2
  go_quiet (fail)
  go_wp2
  (try simp only [Exit.inBlock, Exit.then])
  refine bodyPost_ret (results_none rfl _ _ _) rfl ?_
  exact ⟨rfl, pw_below_drewN (Below.refl _ _) _⟩

set_option maxHeartbeats 8000000 in
set_option maxRecDepth 100000 in
theorem try_prune_b (g gs gt cap gb cb : Nat) (cs : Array Value) (w0 w : World) (hB : Below w0.heap.size w0 w) (hg : w0.heap.size ≤ g) (hgt : w0.heap.size ≤ gt) (HG : w.heap[g]? = some (.cells #[.slice (some ⟨gs, 0, none⟩) 2 cap, .slice (some ⟨gt, 0, none⟩) 2 2, .int .i64 0, .int .i64 0, .int .i64 25, .int .i64 0, .slice (some ⟨gb, 0, none⟩) 2 cb, .int .i64 15] 80 (0, 0))) (HT : w.heap[gt]? = some (.cells #[.int .i64 2, .int .i64 2] 3 (0, 0))) (Hs : w.heap[gs]? = some (.cells cs 54 (0, 0))) (k0 : cs[0]? = some (.int .i64 1)) (k1 : cs[1]? = some (.int .i64 3)) (k2 : cs[2]? = some (.int .i64 10)) (k3 : cs[3]? = some (.int .i64 2)) (k4 : cs[4]? = some (.int .i64 1)) (k5 : cs[5]? = some (.int .i64 15)) : Calls Try.prog 38 #[.pointer (some ⟨g, 0, none⟩), .int .i64 2, .int .i64 2] w fun e w' => e = .returned (.tuple #[]) ∧ Below w.heap.size w w' := by
  obtain ⟨g0, g1, g2, g3, g4, g5, g6, g7⟩ := cl8 HG
  have hnn : ∀ (w : World), (binOp .neq 28 (.slice (some ⟨gb, 0, none⟩) 2 cb) (.slice none 0 0)).run Try.prog w = .ok (.bool true) w := fun w => run_neq_slice_nil w 28 3 (some ⟨gb, 0, none⟩) 2 cb Try.underlying28
  go_enter Try.func38, Try.ntmps38
  go_wp2
  go_quiet (fail)
  go_wp2
  (try simp only [Exit.inBlock, Exit.then])
  refine bodyPost_ret (results_none rfl _ _ _) rfl ?_
  exact ⟨rfl, pw_below_drewN (Below.refl _ _) _⟩

end Go.Proofs.Ytefinjjcbpdljaa.PB
