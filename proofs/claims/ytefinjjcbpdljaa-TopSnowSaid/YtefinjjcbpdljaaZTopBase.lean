-- Written by a program of this session (wip/top/gen.py). Not trusted: Lean checks it.
import Derived.Test.YtefinjjcbpdljaaZPPxD
import Derived.LoopN
import Derived.Lib.LazyBuf
namespace Go.Proofs.Ytefinjjcbpdljaa.PB
open Go.RowKit Go.Proofs.YtefinjjcbpdljaaW.PrintWords Go.Proofs.YtefinjjcbpdljaaW.PrintLast Go.Proofs.YtefinjjcbpdljaaW.PrintMore
attribute [local go_sem] max2_int min2_int max_two min_two max_three min_three max_four min_four   -- for this text's walks alone
set_option linter.unusedVariables false
set_option linter.unusedSimpArgs false

theorem info54 : (Try.prog.info? 54).map (fun i => (i.zero, i.size, i.bytes)) = some (some (.agg #[(.int .i64 0), (.int .i64 0), (.int .i64 0)]), 3, 24) := by kernel_rfl
theorem info91 : (Try.prog.info? 91).map (fun i => (i.zero, i.size, i.bytes)) = some (some (.agg #[(.int .i64 0), (.int .i64 0), (.int .i64 0), (.int .i64 0)]), 4, 32) := by kernel_rfl
structure S54 where
  f0 : Int
  f1 : Int
  f2 : Int
def k54 : Kd S54 := Kd.iso (Kd.pair (Kd.int .i64) (Kd.pair (Kd.int .i64) (Kd.int .i64))) (fun x : S54 => (x.f0, x.f1, x.f2))
theorem k54_open {w : World} {x : S54} {cs : List Value} (h : k54.K w x cs) : cs = [.int .i64 x.f0, .int .i64 x.f1, .int .i64 x.f2] := by
  obtain ⟨_, _, rfl, rfl, ⟨_, _, rfl, rfl, rfl⟩⟩ := h
  exact rfl
theorem k54_mk (w : World) (x : S54) : k54.K w x [.int .i64 x.f0, .int .i64 x.f1, .int .i64 x.f2] := ⟨[.int .i64 x.f0], [.int .i64 x.f1, .int .i64 x.f2], rfl, rfl, ⟨[.int .i64 x.f1], [.int .i64 x.f2], rfl, rfl, rfl⟩⟩

set_option maxHeartbeats 8000000 in
set_option maxRecDepth 100000 in
theorem clone_shift (ad : Addr) (c0 : Nat) (l0 : List (S91)) (w : World) (hr0 : Kd.C k91 w (some ad) l0.length l0) (hc0 : l0.length ≤ c0) (c3 : l0.length < 1000) :
    Calls Try.prog 44 #[.slice (some ad) l0.length c0] w fun e w' => ∃ v0_ : Value, e = .returned (v0_) ∧ Kd.R k91 91 w' w.heap.size (fun _ => True) v0_ l0 ∧ Below w.heap.size w w' := by
  have HR0 := Aside0.mk hr0
  have HC0 := Aside0.mk hc0
  clear hr0 hc0
  have HB := Aside0.mk (Below.refl w.heap.size w)
  obtain ⟨y101, hy101⟩ : ∃ y_ : List (S91), y_ = (([] : List (S91))) := ⟨_, rfl⟩
  have Ny101 := Aside0.mk hy101
  obtain ⟨y104, hy104⟩ : ∃ y_ : List (S91), y_ = (y101 ++ l0) := ⟨_, rfl⟩
  have Ny104 := Aside0.mk hy104
  have LMc3 := Aside0.mk (show y101.length + l0.length < 4398046511104 by rw [hy101]; simp only [List.length_nil]; omega)
  have E104 := Aside0.mk (show y104 = l0 by rw [hy104, hy101]; rfl)
  clear c3 hy101 hy104
  have hnil : ∀ (l c : Nat) (w : World), (binOp .eql 47 (.slice (some ad) l c) (.slice none 0 0)).run Try.prog w = .ok (.bool false) w := fun l c w => run_eql_slice_nil w 47 91 (some ad) l c Try.underlying47
  go_enter Try.func44, Try.ntmps44
  go_wp2_with (first | ((with_reducible refine gate_dst (N := 5) rfl ?_); refine Kd.R_lit k91 _ 91 ?hg (N := 5) ?hd (xs := ([] : List (S91))) (inner := []) (ok := fun _ => True) (okp := fun _ => True) ?hr ?hp (fun _ hk => hk) trivial (Below.refl _ _) (Nat.le_refl _) (by simp) ?_; (case hd => rfl); (case hg => rfl); (case hr => first | (go_simp; done) | (go_simp; rfl)); (case hp => exact (Reps.none _ _)); intro v102 w4 ho5 hb hg_ hnew_; clear hg_ hnew_; (first | rw [← Ny101.out] at ho5 | (simp only [Int.reduceToNat] at ho5; rw [← Ny101.out] at ho5)); have n0_ := Aside0.mk (Kd.R_lower ho5 (below_size (by repeat (first | (with_reducible first | exact HB.out | apply below_alloc | apply pw_below_drewN | apply below_drew1) | exact HB.out)))); have n1_ := Aside0.mk (below_step (by repeat (first | (with_reducible first | exact HB.out | apply below_alloc | apply pw_below_drewN | apply below_drew1) | exact HB.out)) hb); clear HB; have HO103 := n0_; have HB := n1_; clear n0_ n1_; clear hb ho5) | ((with_reducible refine gate_builtin (b := .append) (xs := #[.tmp 5, .tmp 6]) rfl ?_); at_builtin; refine Kd.R_append_rows k91 (w0 := w) w.heap.size rfl (.tmp 5) (.tmp 6) 47 91 (.agg #[(.int .i64 0), (.int .i64 0), (.int .i64 0), (.int .i64 0)]) 32 rfl Try.underlying47 info91 rfl (by decide) (by omega) v102 y101 l0 _ _ _ (fun _ => True) (fun _ => False) rfl rfl ?aO ?aR (fun _ _ h => h) (fun _ h => h.elim) ?aF ?aB ?aS ?aL ?_; (case aR => repeat (first | exact (Kd.C_below HR0.out HB.out) | (with_reducible refine Kd.C_alloc ?_ _) | (with_reducible refine Kd.C_drewN ?_ _) | (with_reducible refine Kd.C_drew ?_))); (case aB => exact (by repeat (first | (with_reducible first | exact HB.out | apply below_alloc | apply pw_below_drewN | apply below_drew1) | exact HB.out))); (case aF => exact (fun _ _ => trivial)); (case aO => exact (by (with_reducible repeat (first | apply Kd.R_alloc | apply Kd.R_drewN | apply Kd.R_drew)); exact HO103.out)); (case aS => exact (below_size (by repeat (first | (with_reducible first | exact HB.out | apply below_alloc | apply pw_below_drewN | apply below_drew1) | exact HB.out)))); (case aL => have := LMc3.out; omega); intro v105 w6 ho hb hg hat; rw [← Ny104.out, E104.out] at ho; have n0_ := Aside0.mk (hb); have n1_ := Aside0.mk (ho); clear HB; clear HO103; have HB := n0_; have HO106 := n1_; clear n0_ n1_; clear ho hb hg hat))
  go_ret
  exact ⟨_, rfl, by (with_reducible repeat (first | apply Kd.R_alloc | apply Kd.R_drewN | apply Kd.R_drew)); exact HO106.out, by repeat (first | (with_reducible first | exact HB.out | apply below_alloc | apply pw_below_drewN | apply below_drew1) | exact HB.out)⟩

set_option maxHeartbeats 8000000 in
set_option maxRecDepth 100000 in
theorem clone_section (ad : Addr) (c0 : Nat) (l0 : List (S54)) (w : World) (hr0 : Kd.C k54 w (some ad) l0.length l0) (hc0 : l0.length ≤ c0) (c3 : l0.length < 1000) :
    Calls Try.prog 47 #[.slice (some ad) l0.length c0] w fun e w' => ∃ v0_ : Value, e = .returned (v0_) ∧ Kd.R k54 54 w' w.heap.size (fun _ => True) v0_ l0 ∧ Below w.heap.size w w' := by
  have HR0 := Aside0.mk hr0
  have HC0 := Aside0.mk hc0
  clear hr0 hc0
  have HB := Aside0.mk (Below.refl w.heap.size w)
  obtain ⟨y101, hy101⟩ : ∃ y_ : List (S54), y_ = (([] : List (S54))) := ⟨_, rfl⟩
  have Ny101 := Aside0.mk hy101
  obtain ⟨y104, hy104⟩ : ∃ y_ : List (S54), y_ = (y101 ++ l0) := ⟨_, rfl⟩
  have Ny104 := Aside0.mk hy104
  have LMc3 := Aside0.mk (show y101.length + l0.length < 5864062014805 by rw [hy101]; simp only [List.length_nil]; omega)
  have E104 := Aside0.mk (show y104 = l0 by rw [hy104, hy101]; rfl)
  clear c3 hy101 hy104
  have hnil : ∀ (l c : Nat) (w : World), (binOp .eql 55 (.slice (some ad) l c) (.slice none 0 0)).run Try.prog w = .ok (.bool false) w := fun l c w => run_eql_slice_nil w 55 54 (some ad) l c Try.underlying55
  go_enter Try.func47, Try.ntmps47
  go_wp2_with (first | ((with_reducible refine gate_dst (N := 5) rfl ?_); refine Kd.R_lit k54 _ 54 ?hg (N := 5) ?hd (xs := ([] : List (S54))) (inner := []) (ok := fun _ => True) (okp := fun _ => True) ?hr ?hp (fun _ hk => hk) trivial (Below.refl _ _) (Nat.le_refl _) (by simp) ?_; (case hd => rfl); (case hg => rfl); (case hr => first | (go_simp; done) | (go_simp; rfl)); (case hp => exact (Reps.none _ _)); intro v102 w4 ho5 hb hg_ hnew_; clear hg_ hnew_; (first | rw [← Ny101.out] at ho5 | (simp only [Int.reduceToNat] at ho5; rw [← Ny101.out] at ho5)); have n0_ := Aside0.mk (Kd.R_lower ho5 (below_size (by repeat (first | (with_reducible first | exact HB.out | apply below_alloc | apply pw_below_drewN | apply below_drew1) | exact HB.out)))); have n1_ := Aside0.mk (below_step (by repeat (first | (with_reducible first | exact HB.out | apply below_alloc | apply pw_below_drewN | apply below_drew1) | exact HB.out)) hb); clear HB; have HO103 := n0_; have HB := n1_; clear n0_ n1_; clear hb ho5) | ((with_reducible refine gate_builtin (b := .append) (xs := #[.tmp 5, .tmp 6]) rfl ?_); at_builtin; refine Kd.R_append_rows k54 (w0 := w) w.heap.size rfl (.tmp 5) (.tmp 6) 55 54 (.agg #[(.int .i64 0), (.int .i64 0), (.int .i64 0)]) 24 rfl Try.underlying55 info54 rfl (by decide) (by omega) v102 y101 l0 _ _ _ (fun _ => True) (fun _ => False) rfl rfl ?aO ?aR (fun _ _ h => h) (fun _ h => h.elim) ?aF ?aB ?aS ?aL ?_; (case aR => repeat (first | exact (Kd.C_below HR0.out HB.out) | (with_reducible refine Kd.C_alloc ?_ _) | (with_reducible refine Kd.C_drewN ?_ _) | (with_reducible refine Kd.C_drew ?_))); (case aB => exact (by repeat (first | (with_reducible first | exact HB.out | apply below_alloc | apply pw_below_drewN | apply below_drew1) | exact HB.out))); (case aF => exact (fun _ _ => trivial)); (case aO => exact (by (with_reducible repeat (first | apply Kd.R_alloc | apply Kd.R_drewN | apply Kd.R_drew)); exact HO103.out)); (case aS => exact (below_size (by repeat (first | (with_reducible first | exact HB.out | apply below_alloc | apply pw_below_drewN | apply below_drew1) | exact HB.out)))); (case aL => have := LMc3.out; omega); intro v105 w6 ho hb hg hat; rw [← Ny104.out, E104.out] at ho; have n0_ := Aside0.mk (hb); have n1_ := Aside0.mk (ho); clear HB; clear HO103; have HB := n0_; have HO106 := n1_; clear n0_ n1_; clear ho hb hg hat))
  go_ret
  exact ⟨_, rfl, by (with_reducible repeat (first | apply Kd.R_alloc | apply Kd.R_drewN | apply Kd.R_drew)); exact HO106.out, by repeat (first | (with_reducible first | exact HB.out | apply below_alloc | apply pw_below_drewN | apply below_drew1) | exact HB.out)⟩

set_option maxHeartbeats 8000000 in
set_option maxRecDepth 100000 in
theorem clone_int (ad : Addr) (c0 : Nat) (l0 : List (Int)) (w : World) (hr0 : Kd.C (Kd.int .i64) w (some ad) l0.length l0) (hc0 : l0.length ≤ c0) (c3 : l0.length < 1000) :
    Calls Try.prog 49 #[.slice (some ad) l0.length c0] w fun e w' => ∃ v0_ : Value, e = .returned (v0_) ∧ Kd.R (Kd.int .i64) 3 w' w.heap.size (fun _ => True) v0_ l0 ∧ Below w.heap.size w w' := by
  have HR0 := Aside0.mk hr0
  have HC0 := Aside0.mk hc0
  clear hr0 hc0
  have HB := Aside0.mk (Below.refl w.heap.size w)
  obtain ⟨y101, hy101⟩ : ∃ y_ : List (Int), y_ = (([] : List (Int))) := ⟨_, rfl⟩
  have Ny101 := Aside0.mk hy101
  obtain ⟨y104, hy104⟩ : ∃ y_ : List (Int), y_ = (y101 ++ l0) := ⟨_, rfl⟩
  have Ny104 := Aside0.mk hy104
  have LMc3 := Aside0.mk (show y101.length + l0.length < 17592186044416 by rw [hy101]; simp only [List.length_nil]; omega)
  have E104 := Aside0.mk (show y104 = l0 by rw [hy104, hy101]; rfl)
  clear c3 hy101 hy104
  have hnil : ∀ (l c : Nat) (w : World), (binOp .eql 28 (.slice (some ad) l c) (.slice none 0 0)).run Try.prog w = .ok (.bool false) w := fun l c w => run_eql_slice_nil w 28 3 (some ad) l c Try.underlying28
  go_enter Try.func49, Try.ntmps49
  go_wp2_with (first | ((with_reducible refine gate_dst (N := 5) rfl ?_); refine Kd.R_lit (Kd.int .i64) _ 3 ?hg (N := 5) ?hd (xs := ([] : List (Int))) (inner := []) (ok := fun _ => True) (okp := fun _ => True) ?hr ?hp (fun _ hk => hk) trivial (Below.refl _ _) (Nat.le_refl _) (by simp) ?_; (case hd => rfl); (case hg => rfl); (case hr => first | (go_simp; done) | (go_simp; rfl)); (case hp => exact (Reps.none _ _)); intro v102 w4 ho5 hb hg_ hnew_; clear hg_ hnew_; (first | rw [← Ny101.out] at ho5 | (simp only [Int.reduceToNat] at ho5; rw [← Ny101.out] at ho5)); have n0_ := Aside0.mk (Kd.R_lower ho5 (below_size (by repeat (first | (with_reducible first | exact HB.out | apply below_alloc | apply pw_below_drewN | apply below_drew1) | exact HB.out)))); have n1_ := Aside0.mk (below_step (by repeat (first | (with_reducible first | exact HB.out | apply below_alloc | apply pw_below_drewN | apply below_drew1) | exact HB.out)) hb); clear HB; have HO103 := n0_; have HB := n1_; clear n0_ n1_; clear hb ho5) | ((with_reducible refine gate_builtin (b := .append) (xs := #[.tmp 5, .tmp 6]) rfl ?_); at_builtin; refine Kd.R_append_rows (Kd.int .i64) (w0 := w) w.heap.size rfl (.tmp 5) (.tmp 6) 28 3 (.int .i64 0) 8 rfl Try.underlying28 info3 rfl (by decide) (by omega) v102 y101 l0 _ _ _ (fun _ => True) (fun _ => False) rfl rfl ?aO ?aR (fun _ _ h => h) (fun _ h => h.elim) ?aF ?aB ?aS ?aL ?_; (case aR => repeat (first | exact (Kd.C_below HR0.out HB.out) | (with_reducible refine Kd.C_alloc ?_ _) | (with_reducible refine Kd.C_drewN ?_ _) | (with_reducible refine Kd.C_drew ?_))); (case aB => exact (by repeat (first | (with_reducible first | exact HB.out | apply below_alloc | apply pw_below_drewN | apply below_drew1) | exact HB.out))); (case aF => exact (fun _ _ => trivial)); (case aO => exact (by (with_reducible repeat (first | apply Kd.R_alloc | apply Kd.R_drewN | apply Kd.R_drew)); exact HO103.out)); (case aS => exact (below_size (by repeat (first | (with_reducible first | exact HB.out | apply below_alloc | apply pw_below_drewN | apply below_drew1) | exact HB.out)))); (case aL => have := LMc3.out; omega); intro v105 w6 ho hb hg hat; rw [← Ny104.out, E104.out] at ho; have n0_ := Aside0.mk (hb); have n1_ := Aside0.mk (ho); clear HB; clear HO103; have HB := n0_; have HO106 := n1_; clear n0_ n1_; clear ho hb hg hat))
  go_ret
  exact ⟨_, rfl, by (with_reducible repeat (first | apply Kd.R_alloc | apply Kd.R_drewN | apply Kd.R_drew)); exact HO106.out, by repeat (first | (with_reducible first | exact HB.out | apply below_alloc | apply pw_below_drewN | apply below_drew1) | exact HB.out)⟩

set_option maxHeartbeats 8000000 in
set_option maxRecDepth 100000 in
theorem sec_row {w : World} {base : Nat} {ok : Nat → Prop} {v : Value} {a b : S54} (h : Kd.R k54 54 w base ok v [a, b]) : ∃ g cap cs, v = .slice (some ⟨g, 0, none⟩) 2 cap ∧ base ≤ g ∧ 2 ≤ cap ∧ w.heap[g]? = some (.cells cs 54 (0, 0)) ∧ cs[0]? = some (.int .i64 a.f0) ∧ cs[1]? = some (.int .i64 a.f1) ∧ cs[2]? = some (.int .i64 a.f2) ∧ cs[3]? = some (.int .i64 b.f0) ∧ cs[4]? = some (.int .i64 b.f1) ∧ cs[5]? = some (.int .i64 b.f2) := by
  obtain ⟨g, cap, rfl, hg, _, cs, hcs⟩ := Kd.R_form h (by simp)
  obtain ⟨_, hcap, hC⟩ := Kd.R_reads' h
  refine ⟨g, cap, cs, rfl, hg, hcap, hcs, ?_⟩
  obtain ⟨ad0, c0, e0, _, hK0, hc0⟩ := Kd.C_get hC ⟨0, 0, 0⟩ 0 (by omega) (by simp)
  obtain ⟨ad1, c1, e1, _, hK1, hc1⟩ := Kd.C_get hC ⟨0, 0, 0⟩ 1 (by omega) (by simp)
  cases e0
  cases e1
  obtain rfl := k54_open hK0
  obtain rfl := k54_open hK1
  have q0 := (blk_cell hcs 0).symm.trans (show w.cell? ⟨g, 0, none⟩ = _ from hc0 0 _ rfl)
  have q1 := (blk_cell hcs 1).symm.trans (show w.cell? ⟨g, 1, none⟩ = _ from hc0 1 _ rfl)
  have q2 := (blk_cell hcs 2).symm.trans (show w.cell? ⟨g, 2, none⟩ = _ from hc0 2 _ rfl)
  have q3 := (blk_cell hcs 3).symm.trans (show w.cell? ⟨g, 3, none⟩ = _ from hc1 0 _ rfl)
  have q4 := (blk_cell hcs 4).symm.trans (show w.cell? ⟨g, 4, none⟩ = _ from hc1 1 _ rfl)
  have q5 := (blk_cell hcs 5).symm.trans (show w.cell? ⟨g, 5, none⟩ = _ from hc1 2 _ rfl)
  exact ⟨q0, q1, q2, q3, q4, q5⟩

set_option maxHeartbeats 8000000 in
set_option maxRecDepth 100000 in
theorem needing_fn (a b c : Int) (hb : (b == 0) = false) (w : World) : Calls Try.prog 48 #[.agg #[.int .i64 a, .int .i64 b, .int .i64 c]] w fun e w' => e = .returned (.bool false) ∧ Below w.heap.size w w' := by
  have HB := Aside0.mk (Below.refl w.heap.size w)
  go_enter Try.func48, Try.ntmps48
  go_wp2
  go_ret
  exact ⟨rfl, below_alloc HB.out _⟩

set_option maxHeartbeats 8000000 in
set_option maxRecDepth 100000 in
theorem index_closed (b cap : Nat) (cs : Array Value) (w : World) (h : w.heap[b]? = some (.cells cs 54 (0, 0))) (k0 : cs[0]? = some (.int .i64 1)) (k1 : cs[1]? = some (.int .i64 3)) (k2 : cs[2]? = some (.int .i64 10)) (k3 : cs[3]? = some (.int .i64 2)) (k4 : cs[4]? = some (.int .i64 1)) (k5 : cs[5]? = some (.int .i64 15)) : Calls Try.prog 52 #[.slice (some ⟨b, 0, none⟩) 2 cap, .func (.func 48) #[] #[]] w fun e w' => e = .returned (.int .i64 (-1)) ∧ Below w.heap.size w w' := by
  have HB := Aside0.mk (Below.refl w.heap.size w)
  have hs := Aside0.mk h
  clear h
  have c0 : w.cell? ⟨b, 0, none⟩ = some (.int .i64 1) := (blk_cell hs.out 0).trans k0
  have c1 : w.cell? ⟨b, 1, none⟩ = some (.int .i64 3) := (blk_cell hs.out 1).trans k1
  have c2 : w.cell? ⟨b, 2, none⟩ = some (.int .i64 10) := (blk_cell hs.out 2).trans k2
  have c3 : w.cell? ⟨b, 3, none⟩ = some (.int .i64 2) := (blk_cell hs.out 3).trans k3
  have c4 : w.cell? ⟨b, 4, none⟩ = some (.int .i64 1) := (blk_cell hs.out 4).trans k4
  have c5 : w.cell? ⟨b, 5, none⟩ = some (.int .i64 15) := (blk_cell hs.out 5).trans k5
  go_enter Try.func52, Try.ntmps52
  go_wp2
  refine wp_loop_rounds 3 ?_
  rw [rounds_succ]
  go_wp2_with (first | (go_at_call 48; refine (needing_fn 1 3 10 rfl _).mono ?_; rintro e w1 ⟨rfl, hb⟩; have nB := Aside0.mk (below_step HB.out hb); have nh := Aside0.mk (blk_below hs.out hb); clear hb HB hs c0 c1 c2 c3 c4 c5; have HB := nB; have hs := nh; clear nB nh))
  have c0 : w1.cell? ⟨b, 0, none⟩ = some (.int .i64 1) := (blk_cell hs.out 0).trans k0
  have c1 : w1.cell? ⟨b, 1, none⟩ = some (.int .i64 3) := (blk_cell hs.out 1).trans k1
  have c2 : w1.cell? ⟨b, 2, none⟩ = some (.int .i64 10) := (blk_cell hs.out 2).trans k2
  have c3 : w1.cell? ⟨b, 3, none⟩ = some (.int .i64 2) := (blk_cell hs.out 3).trans k3
  have c4 : w1.cell? ⟨b, 4, none⟩ = some (.int .i64 1) := (blk_cell hs.out 4).trans k4
  have c5 : w1.cell? ⟨b, 5, none⟩ = some (.int .i64 15) := (blk_cell hs.out 5).trans k5
  rw [rounds_succ]
  go_wp2_with (first | (go_at_call 48; refine (needing_fn 2 1 15 rfl _).mono ?_; rintro e w2 ⟨rfl, hb⟩; have nB := Aside0.mk (below_step HB.out hb); have nh := Aside0.mk (blk_below hs.out hb); clear hb HB hs c0 c1 c2 c3 c4 c5; have HB := nB; have hs := nh; clear nB nh))
  rw [rounds_succ]
  go_wp2
  go_ret
  exact ⟨rfl, HB.out⟩

set_option maxHeartbeats 8000000 in
set_option maxRecDepth 100000 in
theorem delete_closed (b cap : Nat) (cs : Array Value) (w : World) (h : w.heap[b]? = some (.cells cs 54 (0, 0))) (k0 : cs[0]? = some (.int .i64 1)) (k1 : cs[1]? = some (.int .i64 3)) (k2 : cs[2]? = some (.int .i64 10)) (k3 : cs[3]? = some (.int .i64 2)) (k4 : cs[4]? = some (.int .i64 1)) (k5 : cs[5]? = some (.int .i64 15)) : Calls Try.prog 46 #[.slice (some ⟨b, 0, none⟩) 2 cap, .func (.func 48) #[] #[]] w fun e w' => e = .returned (.slice (some ⟨b, 0, none⟩) 2 cap) ∧ Below w.heap.size w w' := by
  have HB := Aside0.mk (Below.refl w.heap.size w)
  have hs := Aside0.mk h
  clear h
  go_enter Try.func46, Try.ntmps46
  go_wp2_with (first | (go_at_call 52; refine (index_closed b cap cs _ hs.out k0 k1 k2 k3 k4 k5).mono ?_; rintro e w1 ⟨rfl, hb⟩; have nB := Aside0.mk (below_step HB.out hb); clear hb HB; have HB := nB; clear nB))
  go_ret
  exact ⟨rfl, HB.out⟩

set_option maxHeartbeats 8000000 in
set_option maxRecDepth 100000 in
theorem needing_closed (ad : Addr) (c0 : Nat) (w : World) (hr : Kd.C k54 w (some ad) 2 ([⟨1, 3, 10⟩, ⟨2, 1, 15⟩] : List S54)) (hc : 2 ≤ c0) : Calls Try.prog 37 #[.slice (some ad) 2 c0] w fun e w' => ∃ g cap cs, e = .returned (.slice (some ⟨g, 0, none⟩) 2 cap) ∧ w.heap.size ≤ g ∧ 2 ≤ cap ∧ w'.heap[g]? = some (.cells cs 54 (0, 0)) ∧ cs[0]? = some (.int .i64 1) ∧ cs[1]? = some (.int .i64 3) ∧ cs[2]? = some (.int .i64 10) ∧ cs[3]? = some (.int .i64 2) ∧ cs[4]? = some (.int .i64 1) ∧ cs[5]? = some (.int .i64 15) ∧ Below w.heap.size w w' := by
  have HB := Aside0.mk (Below.refl w.heap.size w)
  go_enter Try.func37, Try.ntmps37
  go_wp2_with (first | (go_at_call 47; refine (clone_section ad c0 ([⟨1, 3, 10⟩, ⟨2, 1, 15⟩] : List S54) _ hr hc (by decide)).mono ?_; rintro e w1 ⟨v, rfl, hR, hb⟩; obtain ⟨g, cap, cs, rfl, hg, hcap, hs, k0, k1, k2, k3, k4, k5⟩ := sec_row hR; have nB := Aside0.mk (below_step HB.out hb); clear hb HB hR; have HB := nB; clear nB) | (go_at_call 46; refine (delete_closed g cap cs _ hs k0 k1 k2 k3 k4 k5).mono ?_; rintro e w2 ⟨rfl, hb⟩; have nB := Aside0.mk (below_step HB.out hb); have nh := blk_below hs hb; clear hb HB hs; have HB := nB; have hs := nh; clear nB nh))
  go_ret
  exact ⟨g, cap, cs, rfl, hg, hcap, hs, k0, k1, k2, k3, k4, k5, HB.out⟩

end Go.Proofs.Ytefinjjcbpdljaa.PB
