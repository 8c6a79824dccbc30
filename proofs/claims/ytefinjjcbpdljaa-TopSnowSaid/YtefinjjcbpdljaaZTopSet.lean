-- Written by a program of this session (wip/top/gen.py). Not trusted: Lean checks it.
import Derived.Test.YtefinjjcbpdljaaZPPxD
import Derived.Test.YtefinjjcbpdljaaZTopBase
import Derived.Test.YtefinjjcbpdljaaZTopShort
import Derived.LoopN
import Derived.Lib.LazyBuf
namespace Go.Proofs.Ytefinjjcbpdljaa.PB
open Go.RowKit Go.Proofs.YtefinjjcbpdljaaW.PrintWords Go.Proofs.YtefinjjcbpdljaaW.PrintLast Go.Proofs.YtefinjjcbpdljaaW.PrintMore
attribute [local go_sem] max2_int min2_int max_two min_two max_three min_three max_four min_four   -- for this text's walks alone
set_option linter.unusedVariables false
set_option linter.unusedSimpArgs false

set_option maxHeartbeats 8000000 in
set_option maxRecDepth 100000 in
theorem shift_row {w : World} {base : Nat} {ok : Nat → Prop} {v : Value} {a b : S91} (h : Kd.R k91 91 w base ok v [a, b]) : ∃ g cap cs, v = .slice (some ⟨g, 0, none⟩) 2 cap ∧ base ≤ g ∧ 2 ≤ cap ∧ w.heap[g]? = some (.cells cs 91 (0, 0)) ∧ cs[0]? = some (.int .i64 a.f0) ∧ cs[1]? = some (.int .i64 a.f1) ∧ cs[2]? = some (.int .i64 a.f2) ∧ cs[3]? = some (.int .i64 a.f3) ∧ cs[4]? = some (.int .i64 b.f0) ∧ cs[5]? = some (.int .i64 b.f1) ∧ cs[6]? = some (.int .i64 b.f2) ∧ cs[7]? = some (.int .i64 b.f3) := by
  obtain ⟨g, cap, rfl, hg, _, cs, hcs⟩ := Kd.R_form h (by simp)
  obtain ⟨_, hcap, hC⟩ := Kd.R_reads' h
  refine ⟨g, cap, cs, rfl, hg, hcap, hcs, ?_⟩
  obtain ⟨ad0, c0, e0, _, hK0, hc0⟩ := Kd.C_get hC ⟨0, 0, 0, 0⟩ 0 (by omega) (by simp)
  obtain ⟨ad1, c1, e1, _, hK1, hc1⟩ := Kd.C_get hC ⟨0, 0, 0, 0⟩ 1 (by omega) (by simp)
  cases e0
  cases e1
  obtain rfl := k91_open hK0
  obtain rfl := k91_open hK1
  have q0 := (blk_cell hcs 0).symm.trans (show w.cell? ⟨g, 0, none⟩ = _ from hc0 0 _ rfl)
  have q1 := (blk_cell hcs 1).symm.trans (show w.cell? ⟨g, 1, none⟩ = _ from hc0 1 _ rfl)
  have q2 := (blk_cell hcs 2).symm.trans (show w.cell? ⟨g, 2, none⟩ = _ from hc0 2 _ rfl)
  have q3 := (blk_cell hcs 3).symm.trans (show w.cell? ⟨g, 3, none⟩ = _ from hc0 3 _ rfl)
  have q4 := (blk_cell hcs 4).symm.trans (show w.cell? ⟨g, 4, none⟩ = _ from hc1 0 _ rfl)
  have q5 := (blk_cell hcs 5).symm.trans (show w.cell? ⟨g, 5, none⟩ = _ from hc1 1 _ rfl)
  have q6 := (blk_cell hcs 6).symm.trans (show w.cell? ⟨g, 6, none⟩ = _ from hc1 2 _ rfl)
  have q7 := (blk_cell hcs 7).symm.trans (show w.cell? ⟨g, 7, none⟩ = _ from hc1 3 _ rfl)
  exact ⟨q0, q1, q2, q3, q4, q5, q6, q7⟩

set_option maxHeartbeats 8000000 in
set_option maxRecDepth 100000 in
theorem shift_C {w : World} {g : Nat} (cs : Array Value) (a b : S91) (h : w.heap[g]? = some (.cells cs 91 (0, 0))) (q0 : cs[0]? = some (.int .i64 a.f0)) (q1 : cs[1]? = some (.int .i64 a.f1)) (q2 : cs[2]? = some (.int .i64 a.f2)) (q3 : cs[3]? = some (.int .i64 a.f3)) (q4 : cs[4]? = some (.int .i64 b.f0)) (q5 : cs[5]? = some (.int .i64 b.f1)) (q6 : cs[6]? = some (.int .i64 b.f2)) (q7 : cs[7]? = some (.int .i64 b.f3)) : Kd.C k91 w (some ⟨g, 0, none⟩) 2 [a, b] := by
  refine ⟨rfl, by decide, fun _ => ⟨⟨g, 0, none⟩, rfl, fun j p hj => ?_⟩⟩
  match j, hj with
  | 0, hj =>
    cases hj
    refine ⟨[.int .i64 a.f0, .int .i64 a.f1, .int .i64 a.f2, .int .i64 a.f3], rfl, k91_mk _ a, fun i u hu => ?_⟩
    match i, hu with
    | 0, hu =>
      cases hu
      exact (blk_cell h 0).trans q0
    | 1, hu =>
      cases hu
      exact (blk_cell h 1).trans q1
    | 2, hu =>
      cases hu
      exact (blk_cell h 2).trans q2
    | 3, hu =>
      cases hu
      exact (blk_cell h 3).trans q3
  | 1, hj =>
    cases hj
    refine ⟨[.int .i64 b.f0, .int .i64 b.f1, .int .i64 b.f2, .int .i64 b.f3], rfl, k91_mk _ b, fun i u hu => ?_⟩
    match i, hu with
    | 0, hu =>
      cases hu
      exact (blk_cell h 4).trans q4
    | 1, hu =>
      cases hu
      exact (blk_cell h 5).trans q5
    | 2, hu =>
      cases hu
      exact (blk_cell h 6).trans q6
    | 3, hu =>
      cases hu
      exact (blk_cell h 7).trans q7

set_option maxHeartbeats 8000000 in
set_option maxRecDepth 100000 in
theorem prune_0_20 (g gl gw gf gp gb cb : Nat) (w : World) (HG : w.heap[g]? = some (.cells #[.slice (some ⟨gl, 0, none⟩) 2 2, .slice (some ⟨gw, 0, none⟩) 2 2, .slice (some ⟨gf, 0, none⟩) 2 2, .slice (some ⟨gp, 0, none⟩) 2 2, .slice (some ⟨gb, 0, none⟩) 2 cb, .int .i64 20] 75 (0, 0))) : Calls Try.prog 36 #[.pointer (some ⟨g, 0, none⟩), .int .i64 0, .int .i64 20] w fun e w' => e = .returned (.tuple #[]) ∧ w' = w := by
  obtain ⟨g0, g1, g2, g3, g4, g5⟩ := cl6 HG
  have hnn : ∀ (w : World), (binOp .neq 47 (.slice (some ⟨gb, 0, none⟩) 2 cb) (.slice none 0 0)).run Try.prog w = .ok (.bool true) w := fun w => run_neq_slice_nil w 47 91 (some ⟨gb, 0, none⟩) 2 cb Try.underlying47
  go_enter Try.func36, Try.ntmps36
  go_wp2
  (try simp only [Exit.inBlock, Exit.then])
  refine bodyPost_ret (results_none rfl _ _ _) rfl ?_
  exact ⟨rfl, rfl⟩

set_option maxHeartbeats 8000000 in
set_option maxRecDepth 100000 in
theorem prune_0_30 (g gl gw gf gp gb cb : Nat) (w : World) (HG : w.heap[g]? = some (.cells #[.slice (some ⟨gl, 0, none⟩) 2 2, .slice (some ⟨gw, 0, none⟩) 2 2, .slice (some ⟨gf, 0, none⟩) 2 2, .slice (some ⟨gp, 0, none⟩) 2 2, .slice (some ⟨gb, 0, none⟩) 2 cb, .int .i64 20] 75 (0, 0))) : Calls Try.prog 36 #[.pointer (some ⟨g, 0, none⟩), .int .i64 0, .int .i64 30] w fun e w' => e = .returned (.tuple #[]) ∧ w' = w := by
  obtain ⟨g0, g1, g2, g3, g4, g5⟩ := cl6 HG
  have hnn : ∀ (w : World), (binOp .neq 47 (.slice (some ⟨gb, 0, none⟩) 2 cb) (.slice none 0 0)).run Try.prog w = .ok (.bool true) w := fun w => run_neq_slice_nil w 47 91 (some ⟨gb, 0, none⟩) 2 cb Try.underlying47
  go_enter Try.func36, Try.ntmps36
  go_wp2
  (try simp only [Exit.inBlock, Exit.then])
  refine bodyPost_ret (results_none rfl _ _ _) rfl ?_
  exact ⟨rfl, rfl⟩

set_option maxHeartbeats 8000000 in
set_option maxRecDepth 100000 in
theorem prune_1_20 (g gl gw gf gp gb cb : Nat) (w : World) (HG : w.heap[g]? = some (.cells #[.slice (some ⟨gl, 0, none⟩) 2 2, .slice (some ⟨gw, 0, none⟩) 2 2, .slice (some ⟨gf, 0, none⟩) 2 2, .slice (some ⟨gp, 0, none⟩) 2 2, .slice (some ⟨gb, 0, none⟩) 2 cb, .int .i64 20] 75 (0, 0))) : Calls Try.prog 36 #[.pointer (some ⟨g, 0, none⟩), .int .i64 1, .int .i64 20] w fun e w' => e = .returned (.tuple #[]) ∧ w' = w := by
  obtain ⟨g0, g1, g2, g3, g4, g5⟩ := cl6 HG
  have hnn : ∀ (w : World), (binOp .neq 47 (.slice (some ⟨gb, 0, none⟩) 2 cb) (.slice none 0 0)).run Try.prog w = .ok (.bool true) w := fun w => run_neq_slice_nil w 47 91 (some ⟨gb, 0, none⟩) 2 cb Try.underlying47
  go_enter Try.func36, Try.ntmps36
  go_wp2
  (try simp only [Exit.inBlock, Exit.then])
  refine bodyPost_ret (results_none rfl _ _ _) rfl ?_
  exact ⟨rfl, rfl⟩

set_option maxHeartbeats 8000000 in
set_option maxRecDepth 100000 in
theorem set_30 (g gl gw gf gp gb cb : Nat) (w0 w : World) (hB : Below w0.heap.size w0 w) (hg : w0.heap.size ≤ g) (hgf : w0.heap.size ≤ gf) (hgp : w0.heap.size ≤ gp) (HG : w.heap[g]? = some (.cells #[.slice (some ⟨gl, 0, none⟩) 2 2, .slice (some ⟨gw, 0, none⟩) 2 2, .slice (some ⟨gf, 0, none⟩) 2 2, .slice (some ⟨gp, 0, none⟩) 2 2, .slice none 0 0, .int .i64 0] 75 (0, 0))) (HF : w.heap[gf]? = some (.cells #[.int .i64 30, .int .i64 0] 3 (0, 0))) (HP : w.heap[gp]? = some (.cells #[.int .i64 1, .int .i64 1, .int .i64 0, .int .i64 10, .int .i64 1, .int .i64 2, .int .i64 10, .int .i64 30] 91 (0, 0))) (HL : w.heap[gl]? = some (.cells #[.int .i64 1, .int .i64 10, .bool false, .slice none 0 0, .int .i64 2, .int .i64 20, .bool false, .slice none 0 0] 45 (0, 0))) (HW : w.heap[gw]? = some (.cells #[.bool false, .bool false] 4 (0, 0))) : Calls Try.prog 36 #[.pointer (some ⟨g, 0, none⟩), .int .i64 0, .int .i64 30] w fun e w' => e = .returned (.tuple #[]) ∧ ∃ gb capb cb, w'.heap[g]? = some (.cells #[.slice (some ⟨gl, 0, none⟩) 2 2, .slice (some ⟨gw, 0, none⟩) 2 2, .slice (some ⟨gf, 0, none⟩) 2 2, .slice (some ⟨gp, 0, none⟩) 2 2, .slice (some ⟨gb, 0, none⟩) 2 capb, .int .i64 30] 75 (0, 0)) ∧ w'.heap[gf]? = some (.cells #[.int .i64 30, .int .i64 0] 3 (0, 0)) ∧ w'.heap[gp]? = some (.cells #[.int .i64 1, .int .i64 1, .int .i64 0, .int .i64 10, .int .i64 1, .int .i64 2, .int .i64 10, .int .i64 30] 91 (0, 0)) ∧ w'.heap[gl]? = some (.cells #[.int .i64 1, .int .i64 10, .bool false, .slice none 0 0, .int .i64 2, .int .i64 20, .bool false, .slice none 0 0] 45 (0, 0)) ∧ w'.heap[gw]? = some (.cells #[.bool false, .bool false] 4 (0, 0)) ∧ w'.heap[gb]? = some (.cells cb 91 (0, 0)) ∧ cb[0]? = some (.int .i64 1) ∧ cb[1]? = some (.int .i64 1) ∧ cb[2]? = some (.int .i64 0) ∧ cb[3]? = some (.int .i64 10) ∧ cb[4]? = some (.int .i64 1) ∧ cb[5]? = some (.int .i64 2) ∧ cb[6]? = some (.int .i64 10) ∧ cb[7]? = some (.int .i64 30) ∧ gb ≠ gp ∧ Keeps g gf gp w w' ∧ Below w0.heap.size w0 w' := by
  have NHF : gf ≠ g := blk_ne HF HG (by decide)
  have NHP : gp ≠ g := blk_ne HP HG (by decide)
  have NHL : gl ≠ g := blk_ne HL HG (by decide)
  have NHW : gw ≠ g := blk_ne HW HG (by decide)
  obtain ⟨g0, g1, g2, g3, g4, g5⟩ := cl6 HG
  have hnil : ∀ (w : World), (binOp .neq 47 (.slice none 0 0) (.slice none 0 0)).run Try.prog w = .ok (.bool false) w := fun w => run_neq_slice_nil w 47 91 none 0 0 Try.underlying47
  go_enter Try.func36, Try.ntmps36
  go_wp2_with (first | (go_at_call 44; refine (clone_shift ⟨gp, 0, none⟩ 2 ([⟨1, 1, 0, 10⟩, ⟨1, 2, 10, 30⟩] : List S91) _ (shift_C _ ⟨1, 1, 0, 10⟩ ⟨1, 2, 10, 30⟩ HP rfl rfl rfl rfl rfl rfl rfl rfl) (by decide) (by decide)).mono ?_; rintro e w1 ⟨v, rfl, hR, hb⟩; obtain ⟨gn, capn, cn, rfl, hgn, hcn, Hn, n0, n1, n2, n3, n4, n5, n6, n7⟩ := shift_row hR; have hng : gn ≠ g := Nat.ne_of_gt (Nat.lt_of_lt_of_le (blk_lt HG) hgn); have hne : gn ≠ gp := Nat.ne_of_gt (Nat.lt_of_lt_of_le (blk_lt HP) hgn); have qHG := blk_below HG hb; have qHF := blk_below HF hb; have qHP := blk_below HP hb; have qHL := blk_below HL hb; have qHW := blk_below HW hb; have qB := Aside0.mk (below_then hB hB.size hb); have qK := Aside0.mk ((Keeps.refl g gf gp w).below hb); clear HG HF HP HL HW hb hR g0 g1 g2 g3 g4 g5; have f4 := blk_frozen qHG 4; have f5 := blk_frozen qHG 5; obtain ⟨g0, g1, g2, g3, g4, g5⟩ := cl6 qHG))
  (try simp only [Exit.inBlock, Exit.then])
  refine bodyPost_ret (results_none rfl _ _ _) rfl ?_
  exact ⟨rfl, gn, capn, cn, blk_put (blk_put qHG 4 _ rfl) 5 _ rfl, blk_far (blk_far qHF NHF _) NHF _, blk_far (blk_far qHP NHP _) NHP _, blk_far (blk_far qHL NHL _) NHL _, blk_far (blk_far qHW NHW _) NHW _, blk_far (blk_far Hn hng _) hng _, n0, n1, n2, n3, n4, n5, n6, n7, hne, (qK.out.setg _ _).setg _ _, (qB.out.setCell hg _).setCell hg _⟩

set_option maxHeartbeats 8000000 in
set_option maxRecDepth 100000 in
theorem set_20 (g gl gw gf gp gb cb : Nat) (w0 w : World) (hB : Below w0.heap.size w0 w) (hg : w0.heap.size ≤ g) (hgf : w0.heap.size ≤ gf) (hgp : w0.heap.size ≤ gp) (HG : w.heap[g]? = some (.cells #[.slice (some ⟨gl, 0, none⟩) 2 2, .slice (some ⟨gw, 0, none⟩) 2 2, .slice (some ⟨gf, 0, none⟩) 2 2, .slice (some ⟨gp, 0, none⟩) 2 2, .slice (some ⟨gb, 0, none⟩) 2 cb, .int .i64 30] 75 (0, 0))) (HF : w.heap[gf]? = some (.cells #[.int .i64 10, .int .i64 20] 3 (0, 0))) (HP : w.heap[gp]? = some (.cells #[.int .i64 1, .int .i64 1, .int .i64 0, .int .i64 10, .int .i64 2, .int .i64 2, .int .i64 0, .int .i64 20] 91 (0, 0))) (HL : w.heap[gl]? = some (.cells #[.int .i64 1, .int .i64 10, .bool false, .slice none 0 0, .int .i64 2, .int .i64 20, .bool false, .slice none 0 0] 45 (0, 0))) (HW : w.heap[gw]? = some (.cells #[.bool false, .bool false] 4 (0, 0))) : Calls Try.prog 36 #[.pointer (some ⟨g, 0, none⟩), .int .i64 0, .int .i64 20] w fun e w' => e = .returned (.tuple #[]) ∧ ∃ gb capb cb, w'.heap[g]? = some (.cells #[.slice (some ⟨gl, 0, none⟩) 2 2, .slice (some ⟨gw, 0, none⟩) 2 2, .slice (some ⟨gf, 0, none⟩) 2 2, .slice (some ⟨gp, 0, none⟩) 2 2, .slice (some ⟨gb, 0, none⟩) 2 capb, .int .i64 20] 75 (0, 0)) ∧ w'.heap[gf]? = some (.cells #[.int .i64 10, .int .i64 20] 3 (0, 0)) ∧ w'.heap[gp]? = some (.cells #[.int .i64 1, .int .i64 1, .int .i64 0, .int .i64 10, .int .i64 2, .int .i64 2, .int .i64 0, .int .i64 20] 91 (0, 0)) ∧ w'.heap[gl]? = some (.cells #[.int .i64 1, .int .i64 10, .bool false, .slice none 0 0, .int .i64 2, .int .i64 20, .bool false, .slice none 0 0] 45 (0, 0)) ∧ w'.heap[gw]? = some (.cells #[.bool false, .bool false] 4 (0, 0)) ∧ w'.heap[gb]? = some (.cells cb 91 (0, 0)) ∧ cb[0]? = some (.int .i64 1) ∧ cb[1]? = some (.int .i64 1) ∧ cb[2]? = some (.int .i64 0) ∧ cb[3]? = some (.int .i64 10) ∧ cb[4]? = some (.int .i64 2) ∧ cb[5]? = some (.int .i64 2) ∧ cb[6]? = some (.int .i64 0) ∧ cb[7]? = some (.int .i64 20) ∧ gb ≠ gp ∧ Keeps g gf gp w w' ∧ Below w0.heap.size w0 w' := by
  have NHF : gf ≠ g := blk_ne HF HG (by decide)
  have NHP : gp ≠ g := blk_ne HP HG (by decide)
  have NHL : gl ≠ g := blk_ne HL HG (by decide)
  have NHW : gw ≠ g := blk_ne HW HG (by decide)
  obtain ⟨g0, g1, g2, g3, g4, g5⟩ := cl6 HG
  have hnn : ∀ (w : World), (binOp .neq 47 (.slice (some ⟨gb, 0, none⟩) 2 cb) (.slice none 0 0)).run Try.prog w = .ok (.bool true) w := fun w => run_neq_slice_nil w 47 91 (some ⟨gb, 0, none⟩) 2 cb Try.underlying47
  go_enter Try.func36, Try.ntmps36
  go_wp2_with (first | (go_at_call 44; refine (clone_shift ⟨gp, 0, none⟩ 2 ([⟨1, 1, 0, 10⟩, ⟨2, 2, 0, 20⟩] : List S91) _ (shift_C _ ⟨1, 1, 0, 10⟩ ⟨2, 2, 0, 20⟩ HP rfl rfl rfl rfl rfl rfl rfl rfl) (by decide) (by decide)).mono ?_; rintro e w1 ⟨v, rfl, hR, hb⟩; obtain ⟨gn, capn, cn, rfl, hgn, hcn, Hn, n0, n1, n2, n3, n4, n5, n6, n7⟩ := shift_row hR; have hng : gn ≠ g := Nat.ne_of_gt (Nat.lt_of_lt_of_le (blk_lt HG) hgn); have hne : gn ≠ gp := Nat.ne_of_gt (Nat.lt_of_lt_of_le (blk_lt HP) hgn); have qHG := blk_below HG hb; have qHF := blk_below HF hb; have qHP := blk_below HP hb; have qHL := blk_below HL hb; have qHW := blk_below HW hb; have qB := Aside0.mk (below_then hB hB.size hb); have qK := Aside0.mk ((Keeps.refl g gf gp w).below hb); clear HG HF HP HL HW hb hR g0 g1 g2 g3 g4 g5; have f4 := blk_frozen qHG 4; have f5 := blk_frozen qHG 5; obtain ⟨g0, g1, g2, g3, g4, g5⟩ := cl6 qHG))
  (try simp only [Exit.inBlock, Exit.then])
  refine bodyPost_ret (results_none rfl _ _ _) rfl ?_
  exact ⟨rfl, gn, capn, cn, blk_put (blk_put qHG 4 _ rfl) 5 _ rfl, blk_far (blk_far qHF NHF _) NHF _, blk_far (blk_far qHP NHP _) NHP _, blk_far (blk_far qHL NHL _) NHL _, blk_far (blk_far qHW NHW _) NHW _, blk_far (blk_far Hn hng _) hng _, n0, n1, n2, n3, n4, n5, n6, n7, hne, (qK.out.setg _ _).setg _ _, (qB.out.setCell hg _).setCell hg _⟩

end Go.Proofs.Ytefinjjcbpdljaa.PB
