-- Written by a program of this session over the translation (wip/tools/pprint.py). Not trusted: Lean checks it.
-- halved
import Derived.Test.YtefinjjcbpdljaaPPxD
import Derived.Laws.AppendOwnNone
import Derived.Test.YtefinjjcbpdljaaPPx11
import Derived.Test.YtefinjjcbpdljaaPPx12
import Derived.Test.YtefinjjcbpdljaaPPx13
namespace Go.Proofs.Ytefinjjcbpdljaa.PB
open Go.RowKit Go.Proofs.YtefinjjcbpdljaaW.PrintWords Go.Proofs.YtefinjjcbpdljaaW.PrintLast Go.Proofs.YtefinjjcbpdljaaW.PrintMore
attribute [local go_sem] max2_int min2_int max_two min_two max_three min_three max_four min_four   -- for this text's walks alone
set_option linter.unusedVariables false
set_option linter.unusedSimpArgs false

/-! ### skiarearef43_plans: function 35 -/
/-- A slice that can be read, of at most n elements of one cell each. -/
def Weak (W : World) (v : Value) (n : Nat) : Prop :=
 v = .slice none 0 0 ∨ ∃ ad m c, v = .slice (some ad) m c ∧ m ≤ n ∧ ∀ i, i < m → ∃ u, W.cell? (ad.add i) = some u ∧ u.oneCell' = true
theorem weak_below {W W' : World} {v : Value} {n : Nat} (hb : Below W.heap.size W W') (h : Weak W v n) : Weak W' v n := by
 rcases h with rfl | ⟨ad, m, c, rfl, hm, hc⟩
 ·exact .inl rfl
 ·refine .inr ⟨ad, m, c, rfl, hm, fun i hi => ?_⟩
  obtain ⟨u, hu, h1⟩ := hc i hi
  exact ⟨u, (hb.cell (World.block_lt_of_cell? W _ hu)).trans hu, h1⟩
theorem weak_drewN {W : World} {v : Value} {n : Nat} (h : Weak W v n) (k : Nat) : Weak (W.drewN k) v n := h
theorem weak_drew {W : World} {v : Value} {n : Nat} (h : Weak W v n) : Weak W.drew v n := h
theorem weak_alloc {W : World} {v : Value} {n : Nat} (h : Weak W v n) (o : Obj) : Weak (W.alloc o) v n := weak_below (below_alloc (Below.refl _ _) o) h
theorem weak_mono {W : World} {v : Value} {n m : Nat} (h : Weak W v n) (hn : n ≤ m) : Weak W v m := by
 rcases h with rfl | ⟨ad, k, c, rfl, hm, hc⟩
 ·exact .inl rfl
 ·exact .inr ⟨ad, k, c, rfl, by omega, hc⟩
theorem weak_own {W : World} {base n : Nat} {e : TypeId} {v : Value} {xs : List Value} (h : W.ownsRow base e 1 v n xs) (h1 : ∀ u ∈ xs, u.oneCell' = true) : Weak W v n := by
 obtain ⟨hl, ho⟩ := h
 rcases ho with ⟨rfl, _⟩ | ⟨g, cap, cur, rfl, hg, hh, hn, hm, hs, ht⟩
 ·exact .inl rfl
 ·refine .inr ⟨_, n, cap, rfl, Nat.le_refl _, fun i hi => ?_⟩
  rw [Nat.mul_one] at hl hs ht
  have hi' : i < xs.length := by omega
  refine ⟨xs[i], ?_, h1 _ (List.getElem_mem hi')⟩
  have e1 : cur.toList[i]? = some xs[i] := by
   have : (cur.toList.take n)[i]? = some xs[i] := by rw [ht]; exact List.getElem?_eq_getElem hi'
   rwa [List.getElem?_take, if_pos hi] at this
  have hz := blk_cell hh i
  rw [show (cur)[i]? = some xs[i] from by rw [← Array.getElem?_toList]; exact e1] at hz
  have ea : Addr.add ⟨g, 0, none⟩ i = ⟨g, i, none⟩ := by unfold Addr.add; split <;> simp_all
  rw [ea]; exact hz
section
variable {ops : Array Oper} {rest : List Oper} {o : Oper} {a : Act} {Q : Exit → Act → World → Prop}
theorem weak_lit {W : World} (hgd : o.guard = none) {N' : Tmp} (_hd : o.dst = some N') (u : Value)
  (hrun : (execOp a.eval o).run Try.prog W = .ok (.value (.slice (some ⟨W.heap.size, 0, none⟩) 1 1)) (W.alloc (.cells #[u] 28)))
  (h : ∀ v1 w1, w1.ownsRow W.heap.size 28 1 v1 1 [u] → Below W.heap.size W w1 → wpList Try.prog ops Q rest (a.put o.dst v1) w1) : wpList Try.prog ops Q (o :: rest) a W :=
 Kd.event_run hgd hrun (h _ _ (World.ownsRow_lit (base := W.heap.size) (e := 28) (size := 1) W #[u] 1 (Nat.le_refl _) (by simp [maxLen]) rfl) (below_alloc (Below.refl _ _) _))
theorem weak_append {W w0 : World} (hgd : o.guard = none) {N' : Tmp} (_hd : o.dst = some N') (s x : Operand) (ho : o.op = .call { callee := .builtin .append, args := #[s, x], argTypes := #[24, 24] })
  {base n : Nat} {v vr u : Value} (hs : a.eval s = v) (hx : a.eval x = vr) (hown : W.ownsRow base 28 1 v 1 [u]) (hu : u.oneCell' = true) (hr : Weak W vr n) (hn : n ≤ 1000) (hbase : base ≤ W.heap.size) (hB : Below w0.heap.size w0 W) (hb : w0.heap.size ≤ base)
  (h : ∀ v' w', Weak w' v' (n + 1) → Below w0.heap.size w0 w' → wpList Try.prog ops Q rest (a.put o.dst v') w') : wpList Try.prog ops Q (o :: rest) a W := by
 obtain ⟨i0, hi, hz0, hz1, hz2⟩ := info_parts info28
 rcases hr with rfl | ⟨ad, m, c, rfl, hm, hc⟩
 ·exact wpList_append_own_none hgd s x 24 ho base 28 i0 1 Try.underlying24 hi v 1 [u] hs hown hx (h v W (weak_mono (weak_own hown (by simpa using hu)) (by omega)) hB)
 ·obtain ⟨news, hl, hp⟩ : ∃ l : List Value, l.length = m ∧ ∀ (i : Nat) u, l[i]? = some u → W.cell? (ad.add i) = some u ∧ u.oneCell' = true := by
   clear h hx hi hz0 hz1 hz2
   induction m with
   | zero => exact ⟨[], rfl, fun i u hx => by simp at hx⟩
   | succ m ih =>
    obtain ⟨l, hl, hp⟩ := ih (by omega) (fun i hi => hc i (by omega))
    obtain ⟨u', hu', h1'⟩ := hc m (Nat.lt_succ_self m)
    refine ⟨l ++ [u'], by simp [hl], fun i y hy => ?_⟩
    by_cases hi : i < l.length
    ·rw [List.getElem?_append_left hi] at hy; exact hp i y hy
    ·rw [List.getElem?_append_right (by omega)] at hy
     have hz : i - l.length = 0 := by
      obtain ⟨hz, _⟩ := List.getElem?_eq_some_iff.1 hy
      simp at hz; omega
     rw [hz] at hy
     simp at hy
     subst hy
     have : i = m := by omega
     subst this; exact ⟨hu', h1'⟩
  have h1 : ∀ y ∈ news, y.oneCell' = true := fun y hy => by
   obtain ⟨i, hi, rfl⟩ := List.mem_iff_getElem.1 hy
   exact (hp i _ (List.getElem?_eq_getElem hi)).2
  refine wpList_append_own W hgd s x 24 ho base 28 i0 (.slice none 0 0) 1 24 Try.underlying24 hi hz0 hz1 hz2 rfl (by decide) v 1 [u] hs hown ad m c news hx (by rw [hl, Nat.mul_one]) (fun j y hj => (hp j y hj).1) h1 (by unfold maxLen; omega) (by omega) hbase ?_
  intro v' w' hown' hg _
  refine h v' w' (weak_mono (weak_own hown' (fun y hy => ?_)) (by omega)) (hB.grown hg hB.size (fun k hk => Nat.le_trans hb (own_base hown k hk)))
  rcases List.mem_append.1 hy with hy | hy
  ·rw [List.mem_singleton.1 hy]; exact hu
  ·exact h1 y hy
end
theorem skiarearef43_plans.mono_l : ∀ k, (∀ y0 y1 y2, LeO (skiarearef43_plans.f k y0 y1 y2) (skiarearef43_plans.f (k + 1) y0 y1 y2)) ∧ (∀ y0 y1 y2 y3 y4 y5, LeO (skiarearef43_plans.l0 k y0 y1 y2 y3 y4 y5) (skiarearef43_plans.l0 (k + 1) y0 y1 y2 y3 y4 y5)) ∧ (∀ y0 y1 y2 y3 y4 y5 y6 y7 y8, LeO (skiarearef43_plans.j1 k y0 y1 y2 y3 y4 y5 y6 y7 y8) (skiarearef43_plans.j1 (k + 1) y0 y1 y2 y3 y4 y5 y6 y7 y8))
 | 0 => ⟨fun _ _ _ r h => by simp [skiarearef43_plans.f] at h, fun _ _ _ _ _ _ r h => by simp [skiarearef43_plans.l0] at h, fun _ _ _ _ _ _ _ _ _ r h => by simp [skiarearef43_plans.j1] at h⟩
 | k + 1 => by
  obtain ⟨ih0, ih1, ih2⟩ := skiarearef43_plans.mono_l k
  refine ⟨?_, ?_, ?_⟩
  ·intro y0 y1 y2
   unfold skiarearef43_plans.f
   repeat' first
   | (with_reducible exact ih0 _ _ _)
   | (with_reducible exact ih1 _ _ _ _ _ _)
   | (with_reducible exact ih2 _ _ _ _ _ _ _ _ _)
   | (with_reducible exact skiarearef43_Worth.mono _ _ _ _)
   | (with_reducible exact skiarearef43_choice.mono _ _ _)
   | (with_reducible exact skiarearef43_power.mono _ _ _)
   | (with_reducible exact LeO.refl _)
   | (with_reducible exact LeO.none _)
   | (with_reducible refine LeO.ite ?_ ?_)
   | (with_reducible refine LeO.bind ?_ (fun _ => ?_))
   | exact ih0 _ _ _
   | exact ih1 _ _ _ _ _ _
   | exact ih2 _ _ _ _ _ _ _ _ _
   | exact skiarearef43_Worth.mono _ _ _ _
   | exact skiarearef43_choice.mono _ _ _
   | exact skiarearef43_power.mono _ _ _
   | exact LeO.none _
   | refine LeO.ite ?_ ?_
   | refine LeO.bind ?_ (fun _ => ?_)
  ·intro y0 y1 y2 y3 y4 y5
   unfold skiarearef43_plans.l0
   repeat' first
   | (with_reducible exact ih0 _ _ _)
   | (with_reducible exact ih1 _ _ _ _ _ _)
   | (with_reducible exact ih2 _ _ _ _ _ _ _ _ _)
   | (with_reducible exact skiarearef43_Worth.mono _ _ _ _)
   | (with_reducible exact skiarearef43_choice.mono _ _ _)
   | (with_reducible exact skiarearef43_power.mono _ _ _)
   | (with_reducible exact LeO.refl _)
   | (with_reducible exact LeO.none _)
   | (with_reducible refine LeO.ite ?_ ?_)
   | (with_reducible refine LeO.bind ?_ (fun _ => ?_))
   | exact ih0 _ _ _
   | exact ih1 _ _ _ _ _ _
   | exact ih2 _ _ _ _ _ _ _ _ _
   | exact skiarearef43_Worth.mono _ _ _ _
   | exact skiarearef43_choice.mono _ _ _
   | exact skiarearef43_power.mono _ _ _
   | exact LeO.none _
   | refine LeO.ite ?_ ?_
   | refine LeO.bind ?_ (fun _ => ?_)
  ·intro y0 y1 y2 y3 y4 y5 y6 y7 y8
   unfold skiarearef43_plans.j1
   repeat' first
   | (with_reducible exact ih0 _ _ _)
   | (with_reducible exact ih1 _ _ _ _ _ _)
   | (with_reducible exact ih2 _ _ _ _ _ _ _ _ _)
   | (with_reducible exact skiarearef43_Worth.mono _ _ _ _)
   | (with_reducible exact skiarearef43_choice.mono _ _ _)
   | (with_reducible exact skiarearef43_power.mono _ _ _)
   | (with_reducible exact LeO.refl _)
   | (with_reducible exact LeO.none _)
   | (with_reducible refine LeO.ite ?_ ?_)
   | (with_reducible refine LeO.bind ?_ (fun _ => ?_))
   | exact ih0 _ _ _
   | exact ih1 _ _ _ _ _ _
   | exact ih2 _ _ _ _ _ _ _ _ _
   | exact skiarearef43_Worth.mono _ _ _ _
   | exact skiarearef43_choice.mono _ _ _
   | exact skiarearef43_power.mono _ _ _
   | exact LeO.none _
   | refine LeO.ite ?_ ?_
   | refine LeO.bind ?_ (fun _ => ?_)
theorem skiarearef43_plans.mono : ∀ a0 a1 a2 k, LeO (skiarearef43_plans.f k a0 a1 a2) (skiarearef43_plans.f (k + 1) a0 a1 a2) := by
 intro a0 a1 a2 k
 obtain ⟨ih0, ih1, ih2⟩ := skiarearef43_plans.mono_l k
 exact ih0 a0 a1 a2
set_option maxHeartbeats 8000000 in
set_option maxRecDepth 100000 in
theorem skiarearef43_plans.calls (k : Nat) : ∀ (A0 : Option Addr) (c0 : Nat) (l0 : List (S42)) (A1 : Option Addr) (c1 : Nat) (l1 : List (S39)) (a2 : Int) (r1 : Int) (r2 : Int) (w : World) (hr0 : Kd.C k42 w A0 l0.length l0) (hc0 : l0.length ≤ c0) (hr1 : Kd.C k39 w A1 l1.length l1) (hc1 : l1.length ≤ c1) (h : skiarearef43_plans.f k l0 l1 a2 = some (r1, r2)),
  Calls Try.prog 35 #[.slice A0 l0.length c0, .slice A1 l1.length c1, .int .i64 a2] w fun e w' => ∃ v_ : Value, e = .returned (.tuple #[v_, .int .i64 r2]) ∧ Weak w' v_ l1.length ∧ Below w.heap.size w w' := by
 induction k using Nat.strongRecOn with
 | _ k ih =>
 intro A0 c0 l0 A1 c1 l1 a2 r1 r2 w hr0 hc0 hr1 hc1 h
 cases k with
 | zero => exact absurd h (by simp [skiarearef43_plans.f])
 | succ k =>
 simp only [skiarearef43_plans.f] at h
 have HR0 := Aside0.mk hr0
 have HC0 := Aside0.mk hc0
 clear hr0 hc0
 have HR1 := Aside0.mk hr1
 have HC1 := Aside0.mk hc1
 clear hr1 hc1
 have HB := Aside0.mk (Below.refl w.heap.size w)
 have H : (if (l1.length : Int) = 0 then (some (0, 0)) else (if (l1.length : Int) ≤ 1000 then (skiarearef43_plans.l0 k l0 l1 a2 0 (-1) 0) else none)) = some (r1, r2) := h
 clear h
 by_cases c4 : (l1.length : Int) = 0
 ·rw [if_pos c4] at H
  have c4b0 : ((l1.length : Int) == 0) = true := beq_iff_eq.mpr c4
  have c4b1 : ((l1.length : Int) != 0) = false := bne_eq_false_iff_eq.mpr c4
  clear c4
  simp only [Option.some.injEq, Prod.mk.injEq] at H
  obtain ⟨rfl, rfl⟩ := H
  go_enter Try.func35, Try.ntmps35
  go_wp2
  repeat (go_quiet (fail); try go_wp2)
  go_ret2
  exact ⟨_, rfl, .inl rfl, by repeat (first | (with_reducible first | exact HB.out | apply below_alloc | apply pw_below_drewN | apply below_drew1) | exact HB.out)⟩
 ·rw [if_neg c4] at H
  have cg : (l1.length : Int) ≤ 1000 := by
   by_cases cg : (l1.length : Int) ≤ 1000
   ·exact cg
   ·rw [if_neg cg] at H; exact absurd H (by simp)
  rw [if_pos cg] at H
  have CG := Aside0.mk cg
  clear cg
  have c4b0 : ((l1.length : Int) == 0) = false := beq_eq_false_iff_ne.mpr c4
  have c4b1 : ((l1.length : Int) != 0) = true := bne_iff_ne.mpr c4
  have c4b2 : ¬ (l1 = []) := fun h_ => c4 (by rw [h_]; rfl)
  have H' := Aside0.mk H
  clear H
  go_enter Try.func35, Try.ntmps35
  go_wp2
  repeat (go_quiet (fail); try go_wp2)
  go_loopg [8, 9, 10] k (fun kq v8 v9 v10 w' => ∃ (y8 : Value) (x8_1 : Int) (x9_1 : Int) (x10_1 : Int), y8 = v8 ∧ v9 = .int .i64 x9_1 ∧ v10 = .int .i64 x10_1 ∧ Aside0 (skiarearef43_plans.l0 kq l0 l1 a2 x8_1 x9_1 x10_1 = some (r1, r2)) ∧ Aside0 (kq ≤ k) ∧ Aside0 (Weak w' y8 l1.length) ∧ Aside0 (Below w.heap.size w w'))
  case atStart => exact ⟨_, (0), ((-1)), (0), rfl, (by first | rfl | (simp; done) | (simp [*]; done)), (by first | rfl | (simp; done) | (simp [*]; done)), H', ⟨Nat.le_refl _⟩, ⟨.inl rfl⟩, ⟨by repeat (first | (with_reducible first | exact HB.out | apply below_alloc | apply pw_below_drewN | apply below_drew1) | exact HB.out)⟩⟩
  case round =>
   clear H'
   try clear c1
   try clear p2
   try clear c3
   try clear c4
   try clear c4b0
   try clear c4b1
   try clear c4b2
   obtain ⟨y8, x8_1, x9_1, x10_1, rfl, rfl, rfl, HA, HK1, HW, HB⟩ := hrel
   cases gk with
   | zero => exact absurd HA.out (by simp [skiarearef43_plans.l0])
   | succ k1 =>
    have H := HA.out
    clear HA
    simp only [skiarearef43_plans.l0] at H
    obtain ⟨ji5, hji5⟩ : ∃ j_ : Int, (shl .i64 1 (l0.length : Int)) = j_ := ⟨_, rfl⟩
    replace H : (if x10_1 < (ji5) then ((skiarearef43_choice.f k1 l0 x10_1).bind fun t271 => (if 1 ≤ (l1.length : Int) then ((skiarearef43_Worth.f k1 l0 (l1.take 1) (([t271] : List (List Int)))).bind fun bt281 => (if bt281.2.1 > a2 then (skiarearef43_plans.j1 k1 l0 l1 a2 x8_1 x9_1 x10_1 bt281.1 bt281.2.1 true) else ((skiarearef43_power.f k1 l0 t271).bind fun t284 => (if 0 < (l1.length : Int) then (skiarearef43_plans.j1 k1 l0 l1 a2 x8_1 x9_1 x10_1 bt281.1 bt281.2.1 (decide (t284 > ((rd_T39 l1 0).f0)))) else (none))))) else (none))) else (some (x8_1, x9_1))) = some (r1, r2) := by first | (rw [hji5] at H; exact H) | (simp only [hji5] at H ⊢; exact H)
    have hji5_ : (IntKind.i64.wrap (1 * 2 ^ min (l0.length : Int).toNat 64)) = ji5 := hji5
    have hji5z : (l0.length : Int) ≤ 64 → (IntKind.i64.wrap (1 * 2 ^ (l0.length : Int).toNat)) = ji5 := shl_small hji5
    have hji5p : (IntKind.i64.wrap (1 * 2 ^ min l0.length 64)) = ji5 := hji5_
    have hji5q : (l0.length : Int) ≤ 64 → (IntKind.i64.wrap (1 * 2 ^ l0.length)) = ji5 := hji5z
    have hji5r : (IntKind.i64.wrap (2 ^ min l0.length 64)) = ji5 := by have h_ := hji5p; rw [Int.one_mul] at h_; exact h_
    have hji5s : (l0.length : Int) ≤ 64 → (IntKind.i64.wrap (2 ^ l0.length)) = ji5 := fun hle_ => by have h_ := hji5q hle_; rw [Int.one_mul] at h_; exact h_
    have hji5u : (IntKind.i64.wrap (2 ^ min (l0.length : Int).toNat 64)) = ji5 := by have h_ := hji5_; rw [Int.one_mul] at h_; exact h_
    have hji5v : (l0.length : Int) ≤ 64 → (IntKind.i64.wrap (2 ^ (l0.length : Int).toNat)) = ji5 := fun hle_ => by have h_ := hji5z hle_; rw [Int.one_mul] at h_; exact h_
    have hji5y : (wrap64 (1 * 2 ^ min (l0.length : Int).toNat 64)) = ji5 := (i64_w _).symm.trans hji5_
    have hji5x : (l0.length : Int) ≤ 64 → (wrap64 (1 * 2 ^ (l0.length : Int).toNat)) = ji5 := fun h_ => (i64_w _).symm.trans (hji5z h_)
    by_cases c6 : x10_1 < (ji5)
    ·rw [if_pos c6] at H
     have c6b0 : decide (x10_1 < (ji5)) = true := decide_eq_true c6
     clear c6
     replace H := Option.bind_eq_some_iff.mp H
     obtain ⟨t271, A70, H⟩ := H
     replace H : (if 1 ≤ (l1.length : Int) then ((skiarearef43_Worth.f k1 l0 (l1.take 1) (([t271] : List (List Int)))).bind fun bt281 => (if bt281.2.1 > a2 then (skiarearef43_plans.j1 k1 l0 l1 a2 x8_1 x9_1 x10_1 bt281.1 bt281.2.1 true) else ((skiarearef43_power.f k1 l0 t271).bind fun t284 => (if 0 < (l1.length : Int) then (skiarearef43_plans.j1 k1 l0 l1 a2 x8_1 x9_1 x10_1 bt281.1 bt281.2.1 (decide (t284 > ((rd_T39 l1 0).f0)))) else (none))))) else (none)) = some (r1, r2) := H
     have A7 := Aside0.mk A70
     clear A70
     by_cases c8 : 1 ≤ (l1.length : Int)
     ·rw [if_pos c8] at H
      have c8b0 := eq_true c8
      have c8b1 : decide (1 ≤ (l1.length : Int)) = true := decide_eq_true c8
      clear c8
      obtain ⟨y274, hy274⟩ : ∃ y_ : List (S39), y_ = (l1.take 1) := ⟨_, rfl⟩
      replace H : ((skiarearef43_Worth.f k1 l0 y274 (([t271] : List (List Int)))).bind fun bt281 => (if bt281.2.1 > a2 then (skiarearef43_plans.j1 k1 l0 l1 a2 x8_1 x9_1 x10_1 bt281.1 bt281.2.1 true) else ((skiarearef43_power.f k1 l0 t271).bind fun t284 => (if 0 < (l1.length : Int) then (skiarearef43_plans.j1 k1 l0 l1 a2 x8_1 x9_1 x10_1 bt281.1 bt281.2.1 (decide (t284 > ((rd_T39 l1 0).f0)))) else (none))))) = some (r1, r2) := by first | (rw [hy274]; with_reducible exact H) | (have H2_ := (Option.bind_some _ _).symm.trans H; rw [hy274]; with_reducible exact H2_) | (have H2_ := (Option.bind_some _ _).symm.trans H; with_reducible exact H2_) | with_reducible exact H | (rw [hy274]; exact H) | exact H
      have Ny274 := Aside0.mk hy274
      clear hy274
      obtain ⟨y278, hy278⟩ : ∃ y_ : List (List Int), y_ = (([t271] : List (List Int))) := ⟨_, rfl⟩
      replace H : ((skiarearef43_Worth.f k1 l0 y274 y278).bind fun bt281 => (if bt281.2.1 > a2 then (skiarearef43_plans.j1 k1 l0 l1 a2 x8_1 x9_1 x10_1 bt281.1 bt281.2.1 true) else ((skiarearef43_power.f k1 l0 t271).bind fun t284 => (if 0 < (l1.length : Int) then (skiarearef43_plans.j1 k1 l0 l1 a2 x8_1 x9_1 x10_1 bt281.1 bt281.2.1 (decide (t284 > ((rd_T39 l1 0).f0)))) else (none))))) = some (r1, r2) := by first | (rw [hy278]; with_reducible exact H) | (have H2_ := (Option.bind_some _ _).symm.trans H; rw [hy278]; with_reducible exact H2_) | (have H2_ := (Option.bind_some _ _).symm.trans H; with_reducible exact H2_) | with_reducible exact H | (rw [hy278]; exact H) | exact H
      have Ny278 := Aside0.mk hy278
      clear hy278
      replace H := Option.bind_eq_some_iff.mp H
      obtain ⟨⟨t281, t282, t283⟩, A90, H⟩ := H
      replace H : (if t282 > a2 then (skiarearef43_plans.j1 k1 l0 l1 a2 x8_1 x9_1 x10_1 t281 t282 true) else ((skiarearef43_power.f k1 l0 t271).bind fun t284 => (if 0 < (l1.length : Int) then (skiarearef43_plans.j1 k1 l0 l1 a2 x8_1 x9_1 x10_1 t281 t282 (decide (t284 > ((rd_T39 l1 0).f0)))) else (none)))) = some (r1, r2) := H
      have A9 := Aside0.mk A90
      clear A90
      have HC10 := Aside0.mk H
      clear H
      go_upto_region 10 with (first | (go_at_call 43; (with_reducible refine (skiarearef43_choice.calls k1 _ _ l0 x10_1 t271 _ ?side1 ?side2 A7.out).mono ?_); (case side1 => repeat (first | exact (Kd.C_below HR0.out HB.out) | (with_reducible refine Kd.C_alloc ?_ _) | (with_reducible refine Kd.C_drewN ?_ _) | (with_reducible refine Kd.C_drew ?_))); (case side2 => exact HC0.out); rintro e w11 ⟨v272, rfl, ho0, hb⟩; have n0_ := Aside0.mk (Kd.R_lower ho0 (below_size (by repeat (first | (with_reducible first | exact HB.out | apply below_alloc | apply pw_below_drewN | apply below_drew1) | exact HB.out)))); have n1_ := Aside0.mk (below_step (by repeat (first | (with_reducible first | exact HB.out | apply below_alloc | apply pw_below_drewN | apply below_drew1) | exact HB.out)) hb); have nw_ := Aside0.mk (weak_below hb (by (with_reducible repeat (first | refine weak_drewN ?_ _ | refine weak_drew ?_ | refine weak_alloc ?_ _)); exact HW.out)); clear HW; have HW := nw_; clear nw_; clear HB; have HO273 := n0_; have HB := n1_; clear n0_ n1_; (try clear hb); (try clear hb2); (try clear hk); (try clear hi); (try clear ho0); have q12 : (1 : Int) ≤ ((l1.length : Int) : Int) := of_decide_eq_true (by first | (with_reducible assumption) | assumption); obtain ⟨i012, hi012, _, hsz12, _⟩ := info_parts info39; have hroom12 : l1.length ≤ c1 := HC1.out; have hC12 : Kd.C k39 _ A1 l1.length l1 := HR1.out; have hcut12 := cut_to (P := Try.prog) 23 39 .i64 Try.underlying23 hi012 A1 l1.length c1 1 (by omega) q12 hroom12; have hr12 := Kd.C_take (m := 1) hC12 (by omega); have hy12 : y274.length = (1 : Int).toNat := (by rw [Ny274.out, List.length_take]; omega); rw [← Ny274.out] at hr12; rw [← hy12] at hcut12; have HR277 := Aside0.mk hr12; have HC277 := Aside0.mk (show y274.length ≤ c1 from by omega); clear hr12 hC12 hroom12 hi012 hsz12; have KY12 := Aside0.mk hy12; clear hy12; replace q12 := eq_true q12; obtain ⟨Ao13, co13, eo13⟩ := Kd.R_slice HO273.out; subst eo13) | ((with_reducible refine gate_dst (N := 35) rfl ?_); refine Kd.N_lit (Kd.slice 3 (Kd.int .i64)) _ 28 ?hg (N' := 35) ?hd (xs := ([t271] : List (List Int))) (inner := [.slice Ao13 t271.length co13]) (ok := (fun _ => True)) (okp := (fun _ => True)) ?hr ?hp (fun _ hk => hk) ((show ∀ k_, w11.heap.size ≤ k_ → (fun _ => True) k_ from fun k_ hk => trivial) _ (Nat.le_refl _)) (Below.refl _ _) (Nat.le_refl _) (by simp) ?_; (case hd => rfl); (case hg => rfl); (case hr => first | (go_simp; done) | (go_simp; rfl)); (case hp => exact (Reps.one (show Kd.FK (Kd.slice 3 (Kd.int .i64)) _ _ t271 [.slice Ao13 t271.length co13] from (Kd.FK_slice_mk (Kd.R_reads' (Kd.R_mono (ok' := (fun _ => True)) (HO273.out) (fun k_ hk => trivial))).2.1 (Kd.R_F (Kd.R_mono (ok' := (fun _ => True)) (HO273.out) (fun k_ hk => trivial))))) (Reps.none _ _))); intro v279 w14 ho15 hb hg_ hnew_; clear hg_ hnew_; (first | rw [← Ny278.out] at ho15 | (simp only [Int.reduceToNat] at ho15; rw [← Ny278.out] at ho15)); have n0_ := Aside0.mk (Kd.N_lower ho15 (below_size (by repeat (first | (with_reducible first | exact HB.out | apply below_alloc | apply pw_below_drewN | apply below_drew1) | exact HB.out)))); have n1_ := Aside0.mk (below_step (by repeat (first | (with_reducible first | exact HB.out | apply below_alloc | apply pw_below_drewN | apply below_drew1) | exact HB.out)) hb); have nw_ := Aside0.mk (weak_below hb (by (with_reducible repeat (first | refine weak_drewN ?_ _ | refine weak_drew ?_ | refine weak_alloc ?_ _)); exact HW.out)); clear HW; have HW := nw_; clear nw_; have nq_ := Aside0.mk (Kd.R_below (by (with_reducible repeat (first | apply Kd.R_alloc | apply Kd.R_drewN | apply Kd.R_drew)); exact HO273.out) hb); clear HB; clear HO273; have HO273 := nq_; clear nq_; have HO280 := n0_; have HB := n1_; clear n0_ n1_; clear hb ho15; obtain ⟨Ao16, co16, eo16⟩ := Kd.N_slice HO280.out; subst eo16) | (go_at_call 21; (with_reducible refine (skiarearef43_Worth.calls k1 _ _ l0 _ _ y274 _ _ y278 t281 t282 t283 _ ?side1 ?side2 ?side3 ?side4 ?side5 ?side6 A9.out).mono ?_); (case side1 => repeat (first | exact (Kd.C_below HR0.out HB.out) | (with_reducible refine Kd.C_alloc ?_ _) | (with_reducible refine Kd.C_drewN ?_ _) | (with_reducible refine Kd.C_drew ?_))); (case side2 => exact HC0.out); (case side3 => repeat (first | exact (Kd.C_below HR277.out HB.out) | (with_reducible refine Kd.C_alloc ?_ _) | (with_reducible refine Kd.C_drewN ?_ _) | (with_reducible refine Kd.C_drew ?_))); (case side4 => exact HC277.out); (case side5 => repeat (first | exact (Kd.N_reads' HO280.out).2.2 | (with_reducible refine Kd.C_alloc ?_ _) | (with_reducible refine Kd.C_drewN ?_ _) | (with_reducible refine Kd.C_drew ?_))); (case side6 => exact (Kd.N_reads' HO280.out).2.1); rintro e w' ⟨rfl, ⟨nd, rfl⟩⟩; (try first | exact ⟨rfl, _, World.drewN_drewN _ _ _⟩ | exact ⟨rfl, _, Eq.trans (World.drewN_drewN _ _ _) (congrArg (World.drewN _) (Nat.add_assoc _ _ _))⟩)))
      repeat (go_quiet (first | (go_at_call 43; (with_reducible refine (skiarearef43_choice.calls k1 _ _ l0 x10_1 t271 _ ?side1 ?side2 A7.out).mono ?_); (case side1 => repeat (first | exact (Kd.C_below HR0.out HB.out) | (with_reducible refine Kd.C_alloc ?_ _) | (with_reducible refine Kd.C_drewN ?_ _) | (with_reducible refine Kd.C_drew ?_))); (case side2 => exact HC0.out); rintro e w11 ⟨v272, rfl, ho0, hb⟩; have n0_ := Aside0.mk (Kd.R_lower ho0 (below_size (by repeat (first | (with_reducible first | exact HB.out | apply below_alloc | apply pw_below_drewN | apply below_drew1) | exact HB.out)))); have n1_ := Aside0.mk (below_step (by repeat (first | (with_reducible first | exact HB.out | apply below_alloc | apply pw_below_drewN | apply below_drew1) | exact HB.out)) hb); have nw_ := Aside0.mk (weak_below hb (by (with_reducible repeat (first | refine weak_drewN ?_ _ | refine weak_drew ?_ | refine weak_alloc ?_ _)); exact HW.out)); clear HW; have HW := nw_; clear nw_; clear HB; have HO273 := n0_; have HB := n1_; clear n0_ n1_; (try clear hb); (try clear hb2); (try clear hk); (try clear hi); (try clear ho0); have q12 : (1 : Int) ≤ ((l1.length : Int) : Int) := of_decide_eq_true (by first | (with_reducible assumption) | assumption); obtain ⟨i012, hi012, _, hsz12, _⟩ := info_parts info39; have hroom12 : l1.length ≤ c1 := HC1.out; have hC12 : Kd.C k39 _ A1 l1.length l1 := HR1.out; have hcut12 := cut_to (P := Try.prog) 23 39 .i64 Try.underlying23 hi012 A1 l1.length c1 1 (by omega) q12 hroom12; have hr12 := Kd.C_take (m := 1) hC12 (by omega); have hy12 : y274.length = (1 : Int).toNat := (by rw [Ny274.out, List.length_take]; omega); rw [← Ny274.out] at hr12; rw [← hy12] at hcut12; have HR277 := Aside0.mk hr12; have HC277 := Aside0.mk (show y274.length ≤ c1 from by omega); clear hr12 hC12 hroom12 hi012 hsz12; have KY12 := Aside0.mk hy12; clear hy12; replace q12 := eq_true q12; obtain ⟨Ao13, co13, eo13⟩ := Kd.R_slice HO273.out; subst eo13) | ((with_reducible refine gate_dst (N := 35) rfl ?_); refine Kd.N_lit (Kd.slice 3 (Kd.int .i64)) _ 28 ?hg (N' := 35) ?hd (xs := ([t271] : List (List Int))) (inner := [.slice Ao13 t271.length co13]) (ok := (fun _ => True)) (okp := (fun _ => True)) ?hr ?hp (fun _ hk => hk) ((show ∀ k_, w11.heap.size ≤ k_ → (fun _ => True) k_ from fun k_ hk => trivial) _ (Nat.le_refl _)) (Below.refl _ _) (Nat.le_refl _) (by simp) ?_; (case hd => rfl); (case hg => rfl); (case hr => first | (go_simp; done) | (go_simp; rfl)); (case hp => exact (Reps.one (show Kd.FK (Kd.slice 3 (Kd.int .i64)) _ _ t271 [.slice Ao13 t271.length co13] from (Kd.FK_slice_mk (Kd.R_reads' (Kd.R_mono (ok' := (fun _ => True)) (HO273.out) (fun k_ hk => trivial))).2.1 (Kd.R_F (Kd.R_mono (ok' := (fun _ => True)) (HO273.out) (fun k_ hk => trivial))))) (Reps.none _ _))); intro v279 w14 ho15 hb hg_ hnew_; clear hg_ hnew_; (first | rw [← Ny278.out] at ho15 | (simp only [Int.reduceToNat] at ho15; rw [← Ny278.out] at ho15)); have n0_ := Aside0.mk (Kd.N_lower ho15 (below_size (by repeat (first | (with_reducible first | exact HB.out | apply below_alloc | apply pw_below_drewN | apply below_drew1) | exact HB.out)))); have n1_ := Aside0.mk (below_step (by repeat (first | (with_reducible first | exact HB.out | apply below_alloc | apply pw_below_drewN | apply below_drew1) | exact HB.out)) hb); have nw_ := Aside0.mk (weak_below hb (by (with_reducible repeat (first | refine weak_drewN ?_ _ | refine weak_drew ?_ | refine weak_alloc ?_ _)); exact HW.out)); clear HW; have HW := nw_; clear nw_; have nq_ := Aside0.mk (Kd.R_below (by (with_reducible repeat (first | apply Kd.R_alloc | apply Kd.R_drewN | apply Kd.R_drew)); exact HO273.out) hb); clear HB; clear HO273; have HO273 := nq_; clear nq_; have HO280 := n0_; have HB := n1_; clear n0_ n1_; clear hb ho15; obtain ⟨Ao16, co16, eo16⟩ := Kd.N_slice HO280.out; subst eo16) | (go_at_call 21; (with_reducible refine (skiarearef43_Worth.calls k1 _ _ l0 _ _ y274 _ _ y278 t281 t282 t283 _ ?side1 ?side2 ?side3 ?side4 ?side5 ?side6 A9.out).mono ?_); (case side1 => repeat (first | exact (Kd.C_below HR0.out HB.out) | (with_reducible refine Kd.C_alloc ?_ _) | (with_reducible refine Kd.C_drewN ?_ _) | (with_reducible refine Kd.C_drew ?_))); (case side2 => exact HC0.out); (case side3 => repeat (first | exact (Kd.C_below HR277.out HB.out) | (with_reducible refine Kd.C_alloc ?_ _) | (with_reducible refine Kd.C_drewN ?_ _) | (with_reducible refine Kd.C_drew ?_))); (case side4 => exact HC277.out); (case side5 => repeat (first | exact (Kd.N_reads' HO280.out).2.2 | (with_reducible refine Kd.C_alloc ?_ _) | (with_reducible refine Kd.C_drewN ?_ _) | (with_reducible refine Kd.C_drew ?_))); (case side6 => exact (Kd.N_reads' HO280.out).2.1); rintro e w' ⟨rfl, ⟨nd, rfl⟩⟩; (try first | exact ⟨rfl, _, World.drewN_drewN _ _ _⟩ | exact ⟨rfl, _, Eq.trans (World.drewN_drewN _ _ _) (congrArg (World.drewN _) (Nat.add_assoc _ _ _))⟩))); go_upto_region 10 with (first | (go_at_call 43; (with_reducible refine (skiarearef43_choice.calls k1 _ _ l0 x10_1 t271 _ ?side1 ?side2 A7.out).mono ?_); (case side1 => repeat (first | exact (Kd.C_below HR0.out HB.out) | (with_reducible refine Kd.C_alloc ?_ _) | (with_reducible refine Kd.C_drewN ?_ _) | (with_reducible refine Kd.C_drew ?_))); (case side2 => exact HC0.out); rintro e w11 ⟨v272, rfl, ho0, hb⟩; have n0_ := Aside0.mk (Kd.R_lower ho0 (below_size (by repeat (first | (with_reducible first | exact HB.out | apply below_alloc | apply pw_below_drewN | apply below_drew1) | exact HB.out)))); have n1_ := Aside0.mk (below_step (by repeat (first | (with_reducible first | exact HB.out | apply below_alloc | apply pw_below_drewN | apply below_drew1) | exact HB.out)) hb); have nw_ := Aside0.mk (weak_below hb (by (with_reducible repeat (first | refine weak_drewN ?_ _ | refine weak_drew ?_ | refine weak_alloc ?_ _)); exact HW.out)); clear HW; have HW := nw_; clear nw_; clear HB; have HO273 := n0_; have HB := n1_; clear n0_ n1_; (try clear hb); (try clear hb2); (try clear hk); (try clear hi); (try clear ho0); have q12 : (1 : Int) ≤ ((l1.length : Int) : Int) := of_decide_eq_true (by first | (with_reducible assumption) | assumption); obtain ⟨i012, hi012, _, hsz12, _⟩ := info_parts info39; have hroom12 : l1.length ≤ c1 := HC1.out; have hC12 : Kd.C k39 _ A1 l1.length l1 := HR1.out; have hcut12 := cut_to (P := Try.prog) 23 39 .i64 Try.underlying23 hi012 A1 l1.length c1 1 (by omega) q12 hroom12; have hr12 := Kd.C_take (m := 1) hC12 (by omega); have hy12 : y274.length = (1 : Int).toNat := (by rw [Ny274.out, List.length_take]; omega); rw [← Ny274.out] at hr12; rw [← hy12] at hcut12; have HR277 := Aside0.mk hr12; have HC277 := Aside0.mk (show y274.length ≤ c1 from by omega); clear hr12 hC12 hroom12 hi012 hsz12; have KY12 := Aside0.mk hy12; clear hy12; replace q12 := eq_true q12; obtain ⟨Ao13, co13, eo13⟩ := Kd.R_slice HO273.out; subst eo13) | ((with_reducible refine gate_dst (N := 35) rfl ?_); refine Kd.N_lit (Kd.slice 3 (Kd.int .i64)) _ 28 ?hg (N' := 35) ?hd (xs := ([t271] : List (List Int))) (inner := [.slice Ao13 t271.length co13]) (ok := (fun _ => True)) (okp := (fun _ => True)) ?hr ?hp (fun _ hk => hk) ((show ∀ k_, w11.heap.size ≤ k_ → (fun _ => True) k_ from fun k_ hk => trivial) _ (Nat.le_refl _)) (Below.refl _ _) (Nat.le_refl _) (by simp) ?_; (case hd => rfl); (case hg => rfl); (case hr => first | (go_simp; done) | (go_simp; rfl)); (case hp => exact (Reps.one (show Kd.FK (Kd.slice 3 (Kd.int .i64)) _ _ t271 [.slice Ao13 t271.length co13] from (Kd.FK_slice_mk (Kd.R_reads' (Kd.R_mono (ok' := (fun _ => True)) (HO273.out) (fun k_ hk => trivial))).2.1 (Kd.R_F (Kd.R_mono (ok' := (fun _ => True)) (HO273.out) (fun k_ hk => trivial))))) (Reps.none _ _))); intro v279 w14 ho15 hb hg_ hnew_; clear hg_ hnew_; (first | rw [← Ny278.out] at ho15 | (simp only [Int.reduceToNat] at ho15; rw [← Ny278.out] at ho15)); have n0_ := Aside0.mk (Kd.N_lower ho15 (below_size (by repeat (first | (with_reducible first | exact HB.out | apply below_alloc | apply pw_below_drewN | apply below_drew1) | exact HB.out)))); have n1_ := Aside0.mk (below_step (by repeat (first | (with_reducible first | exact HB.out | apply below_alloc | apply pw_below_drewN | apply below_drew1) | exact HB.out)) hb); have nw_ := Aside0.mk (weak_below hb (by (with_reducible repeat (first | refine weak_drewN ?_ _ | refine weak_drew ?_ | refine weak_alloc ?_ _)); exact HW.out)); clear HW; have HW := nw_; clear nw_; have nq_ := Aside0.mk (Kd.R_below (by (with_reducible repeat (first | apply Kd.R_alloc | apply Kd.R_drewN | apply Kd.R_drew)); exact HO273.out) hb); clear HB; clear HO273; have HO273 := nq_; clear nq_; have HO280 := n0_; have HB := n1_; clear n0_ n1_; clear hb ho15; obtain ⟨Ao16, co16, eo16⟩ := Kd.N_slice HO280.out; subst eo16) | (go_at_call 21; (with_reducible refine (skiarearef43_Worth.calls k1 _ _ l0 _ _ y274 _ _ y278 t281 t282 t283 _ ?side1 ?side2 ?side3 ?side4 ?side5 ?side6 A9.out).mono ?_); (case side1 => repeat (first | exact (Kd.C_below HR0.out HB.out) | (with_reducible refine Kd.C_alloc ?_ _) | (with_reducible refine Kd.C_drewN ?_ _) | (with_reducible refine Kd.C_drew ?_))); (case side2 => exact HC0.out); (case side3 => repeat (first | exact (Kd.C_below HR277.out HB.out) | (with_reducible refine Kd.C_alloc ?_ _) | (with_reducible refine Kd.C_drewN ?_ _) | (with_reducible refine Kd.C_drew ?_))); (case side4 => exact HC277.out); (case side5 => repeat (first | exact (Kd.N_reads' HO280.out).2.2 | (with_reducible refine Kd.C_alloc ?_ _) | (with_reducible refine Kd.C_drewN ?_ _) | (with_reducible refine Kd.C_drew ?_))); (case side6 => exact (Kd.N_reads' HO280.out).2.1); rintro e w' ⟨rfl, ⟨nd, rfl⟩⟩; (try first | exact ⟨rfl, _, World.drewN_drewN _ _ _⟩ | exact ⟨rfl, _, Eq.trans (World.drewN_drewN _ _ _) (congrArg (World.drewN _) (Nat.add_assoc _ _ _))⟩))))
      (try simp only [Act.put, List.setIfInBounds_toArray, List.set_cons_zero, List.set_cons_succ])
      go_cut [52] (fun v52 wc => ∃ (kq : Nat) (x52_9 : Bool), v52 = .bool x52_9 ∧ Aside0 (skiarearef43_plans.j1 kq l0 l1 a2 x8_1 x9_1 x10_1 t281 t282 x52_9 = some (r1, r2)) ∧ Aside0 (kq ≤ k1) ∧ Aside0 (Weak wc y8 l1.length) ∧ Aside0 (Below w.heap.size w wc))
      case first =>
       have H := HC10.out
       clear HC10
       by_cases c17 : t282 > a2
       ·rw [if_pos c17] at H
        have c17b0 : decide (a2 < t282) = true := decide_eq_true c17
        clear c17
        (first | rw [c17b0] | (simp only [i64_w, i32_w]; rw [c17b0]) | skip)
        have H' := Aside0.mk H
        clear H
        go_wp2
        repeat (go_quiet (fail); try go_wp2)
        go_meet
        case rel => exact ⟨_, (true), (by first | rfl | (simp; done) | (simp [*]; done)), H', ⟨by have := HK1.out; first | omega | exact Nat.le_refl _⟩, ⟨(by (with_reducible repeat (first | refine weak_drewN ?_ _ | refine weak_drew ?_ | refine weak_alloc ?_ _)); exact HW.out)⟩, ⟨by repeat (first | (with_reducible first | exact HB.out | apply below_alloc | apply pw_below_drewN | apply below_drew1) | exact HB.out)⟩⟩
       ·rw [if_neg c17] at H
        have c17b0 : decide (a2 < t282) = false := decide_eq_false c17
        clear c17
        (first | rw [c17b0] | (simp only [i64_w, i32_w]; rw [c17b0]) | skip)
        replace H := Option.bind_eq_some_iff.mp H
        obtain ⟨t284, A180, H⟩ := H
        replace H : (if 0 < (l1.length : Int) then (skiarearef43_plans.j1 k1 l0 l1 a2 x8_1 x9_1 x10_1 t281 t282 (decide (t284 > ((rd_T39 l1 0).f0)))) else (none)) = some (r1, r2) := H
        have A18 := Aside0.mk A180
        clear A180
        by_cases c19 : 0 < (l1.length : Int)
        ·rw [if_pos c19] at H
         have c19b0 : decide (0 < (l1.length : Int)) = true := decide_eq_true c19
         have c19b1 : decide (0 < l1.length) = true := decide_eq_true (by omega)
         clear c19
         have H' := Aside0.mk H
         clear H
         have p285 : 0 ≤ (0 : Int) := (by omega)
         have q285 : 0 < (l1.length : Int) := of_decide_eq_true (by first | (with_reducible assumption) | assumption)
         obtain ⟨ad285, e285, hx285_0, hx285_1⟩ := at_T39 HR1.out 0 p285 q285
         cases e285
         have qi285 : (0 < l1.length) = True := eq_true (by omega)
         (try rw [show ((0 : Int)).toNat = 0 from rfl] at hx285_0)
         (try rw [show 0 * 2 = 0 from rfl] at hx285_0)
         (try rw [Addr.add_zero'] at hx285_0)
         (try rw [show ((0 : Int)).toNat = 0 from rfl] at hx285_1)
         (try rw [show 0 * 2 = 0 from rfl] at hx285_1)
         (try rw [Addr.add_zero'] at hx285_1)
         replace hx285_0 := (HB.out.cell (World.block_lt_of_cell? w _ hx285_0)).trans hx285_0
         replace hx285_1 := (HB.out.cell (World.block_lt_of_cell? w _ hx285_1)).trans hx285_1
         replace p285 := eq_true p285
         replace q285 := eq_true q285
         go_wp2_with (first | (go_at_call 34; (with_reducible refine (skiarearef43_power.calls k1 _ _ l0 _ _ t271 t284 _ ?side1 ?side2 ?side3 ?side4 A18.out).mono ?_); (case side1 => repeat (first | exact (Kd.C_below HR0.out HB.out) | (with_reducible refine Kd.C_alloc ?_ _) | (with_reducible refine Kd.C_drewN ?_ _) | (with_reducible refine Kd.C_drew ?_))); (case side2 => exact HC0.out); (case side3 => repeat (first | exact (Kd.R_reads' HO273.out).2.2 | (with_reducible refine Kd.C_alloc ?_ _) | (with_reducible refine Kd.C_drewN ?_ _) | (with_reducible refine Kd.C_drew ?_))); (case side4 => exact (Kd.R_reads' HO273.out).2.1); rintro e w' ⟨rfl, ⟨nd, rfl⟩⟩; (try first | exact ⟨rfl, _, World.drewN_drewN _ _ _⟩ | exact ⟨rfl, _, Eq.trans (World.drewN_drewN _ _ _) (congrArg (World.drewN _) (Nat.add_assoc _ _ _))⟩)))
         repeat (go_quiet (first | (go_at_call 34; (with_reducible refine (skiarearef43_power.calls k1 _ _ l0 _ _ t271 t284 _ ?side1 ?side2 ?side3 ?side4 A18.out).mono ?_); (case side1 => repeat (first | exact (Kd.C_below HR0.out HB.out) | (with_reducible refine Kd.C_alloc ?_ _) | (with_reducible refine Kd.C_drewN ?_ _) | (with_reducible refine Kd.C_drew ?_))); (case side2 => exact HC0.out); (case side3 => repeat (first | exact (Kd.R_reads' HO273.out).2.2 | (with_reducible refine Kd.C_alloc ?_ _) | (with_reducible refine Kd.C_drewN ?_ _) | (with_reducible refine Kd.C_drew ?_))); (case side4 => exact (Kd.R_reads' HO273.out).2.1); rintro e w' ⟨rfl, ⟨nd, rfl⟩⟩; (try first | exact ⟨rfl, _, World.drewN_drewN _ _ _⟩ | exact ⟨rfl, _, Eq.trans (World.drewN_drewN _ _ _) (congrArg (World.drewN _) (Nat.add_assoc _ _ _))⟩))); try go_wp2_with (first | (go_at_call 34; (with_reducible refine (skiarearef43_power.calls k1 _ _ l0 _ _ t271 t284 _ ?side1 ?side2 ?side3 ?side4 A18.out).mono ?_); (case side1 => repeat (first | exact (Kd.C_below HR0.out HB.out) | (with_reducible refine Kd.C_alloc ?_ _) | (with_reducible refine Kd.C_drewN ?_ _) | (with_reducible refine Kd.C_drew ?_))); (case side2 => exact HC0.out); (case side3 => repeat (first | exact (Kd.R_reads' HO273.out).2.2 | (with_reducible refine Kd.C_alloc ?_ _) | (with_reducible refine Kd.C_drewN ?_ _) | (with_reducible refine Kd.C_drew ?_))); (case side4 => exact (Kd.R_reads' HO273.out).2.1); rintro e w' ⟨rfl, ⟨nd, rfl⟩⟩; (try first | exact ⟨rfl, _, World.drewN_drewN _ _ _⟩ | exact ⟨rfl, _, Eq.trans (World.drewN_drewN _ _ _) (congrArg (World.drewN _) (Nat.add_assoc _ _ _))⟩))))
         go_meet
         case rel => exact ⟨_, (decide (t284 > ((rd_T39 l1 0).f0))), (by first | rfl | (simp; done) | (simp [*]; done)), H', ⟨by have := HK1.out; first | omega | exact Nat.le_refl _⟩, ⟨(by (with_reducible repeat (first | refine weak_drewN ?_ _ | refine weak_drew ?_ | refine weak_alloc ?_ _)); exact HW.out)⟩, ⟨by repeat (first | (with_reducible first | exact HB.out | apply below_alloc | apply pw_below_drewN | apply below_drew1) | exact HB.out)⟩⟩
        ·rw [if_neg c19] at H
         exact absurd H (by simp)
      case rest =>
       clear HC10
       try clear c1
       try clear q1
       try clear p2
       try clear q2
       try clear hx2
       try clear qi2
       try clear c3
       try clear c4
       try clear c4b0
       try clear c4b1
       try clear c4b2
       try clear c6
       try clear c6b0
       try clear p6
       try clear c8
       try clear c8b0
       try clear c8b1
       try clear q12
       try clear c17
       try clear c17b0
       try clear c19
       try clear c19b0
       try clear c19b1
       try clear hx285_0
       try clear hx285_1
       try clear p2
       try clear p285
       try clear q12
       try clear q285
       clear HW
       obtain ⟨kq, x52_9, rfl, HA, HJ9, HW, HB⟩ := hcut
       cases kq with
       | zero => exact absurd HA.out (by simp [skiarearef43_plans.j1])
       | succ kj9 =>
        have H := HA.out
        clear HA
        simp only [skiarearef43_plans.j1] at H
        by_cases c20 : x52_9 = true
        ·subst c20
         have H1 : (skiarearef43_plans.l0 kj9 l0 l1 a2 x8_1 x9_1 (wrap64 (x10_1 + 1))) = some (r1, r2) := by rw [if_pos rfl] at H; exact H
         clear H
         have H := H1
         clear H1
         have H' := Aside0.mk H
         clear H
         go_wp2
         repeat (go_quiet (fail); try go_wp2)
         go_roundg kj9
         case measure => have := HK1.out; have := HJ9.out; omega
         case rel => exact ⟨_, (x8_1), (x9_1), (wrap64 (x10_1 + 1)), rfl, (by first | rfl | (simp; done) | (simp [*]; done)), (by first | rfl | (simp; done) | (simp [*]; done)), H', ⟨by have := HK1.out; have := HJ9.out; omega⟩, ⟨(by (with_reducible repeat (first | refine weak_drewN ?_ _ | refine weak_drew ?_ | refine weak_alloc ?_ _)); exact HW.out)⟩, ⟨by repeat (first | (with_reducible first | exact HB.out | apply below_alloc | apply pw_below_drewN | apply below_drew1) | exact HB.out)⟩⟩
        ·replace c20 := Bool.eq_false_iff.mpr c20
         subst c20
         have H1 : (if 1 ≤ (l1.length : Int) then ((skiarearef43_plans.f kj9 l0 (l1.drop 1) (wrap64 (a2 - t282))).bind fun bt290 => (if (wrap64 (t281 + bt290.2)) > x9_1 then (skiarearef43_plans.l0 kj9 l0 l1 a2 (wrap64 (0 + bt290.1)) (wrap64 (t281 + bt290.2)) (wrap64 (x10_1 + 1))) else (skiarearef43_plans.l0 kj9 l0 l1 a2 x8_1 x9_1 (wrap64 (x10_1 + 1))))) else (none)) = some (r1, r2) := by rw [if_neg (show ¬ (false = true) by decide)] at H; exact H
         clear H
         have H := H1
         clear H1
         by_cases c21 : 1 ≤ (l1.length : Int)
         ·rw [if_pos c21] at H
          have c21b0 := eq_true c21
          have c21b1 : decide (1 ≤ (l1.length : Int)) = true := decide_eq_true c21
          clear c21
          obtain ⟨y286, hy286⟩ : ∃ y_ : List (S39), y_ = (l1.drop 1) := ⟨_, rfl⟩
          replace H : ((skiarearef43_plans.f kj9 l0 y286 (wrap64 (a2 - t282))).bind fun bt290 => (if (wrap64 (t281 + bt290.2)) > x9_1 then (skiarearef43_plans.l0 kj9 l0 l1 a2 (wrap64 (0 + bt290.1)) (wrap64 (t281 + bt290.2)) (wrap64 (x10_1 + 1))) else (skiarearef43_plans.l0 kj9 l0 l1 a2 x8_1 x9_1 (wrap64 (x10_1 + 1))))) = some (r1, r2) := by first | (rw [hy286]; with_reducible exact H) | (have H2_ := (Option.bind_some _ _).symm.trans H; rw [hy286]; with_reducible exact H2_) | (have H2_ := (Option.bind_some _ _).symm.trans H; with_reducible exact H2_) | with_reducible exact H | (rw [hy286]; exact H) | exact H
          have Ny286 := Aside0.mk hy286
          clear hy286
          replace H := Option.bind_eq_some_iff.mp H
          obtain ⟨⟨t290, t291⟩, A220, H⟩ := H
          replace H : (if (wrap64 (t281 + t291)) > x9_1 then (skiarearef43_plans.l0 kj9 l0 l1 a2 (wrap64 (0 + t290)) (wrap64 (t281 + t291)) (wrap64 (x10_1 + 1))) else (skiarearef43_plans.l0 kj9 l0 l1 a2 x8_1 x9_1 (wrap64 (x10_1 + 1)))) = some (r1, r2) := H
          have A22 := Aside0.mk A220
          clear A220
          by_cases c23 : (wrap64 (t281 + t291)) > x9_1
          ·rw [if_pos c23] at H
           have c23b0 : decide (x9_1 < (wrap64 (t281 + t291))) = true := decide_eq_true c23
           clear c23
           have H' := Aside0.mk H
           clear H
           have q24 : (1 : Int) ≤ ((l1.length : Int) : Int) := of_decide_eq_true (by first | (with_reducible assumption) | assumption)
           obtain ⟨i024, hi024, _, hsz24, _⟩ := info_parts info39
           have hroom24 : l1.length ≤ c1 := HC1.out
           have hC24 : Kd.C k39 _ A1 l1.length l1 := HR1.out
           have hcut24 := cut_from (P := Try.prog) 23 39 .i64 Try.underlying23 hi024 2 hsz24 A1 l1.length c1 1 (by omega) q24
           have hr24 := Kd.C_drop (m := (1 : Int).toNat) (c := c1) hC24 (by omega) hroom24
           obtain ⟨A24, hA24⟩ : ∃ z_, z_ = (if c1 = (1 : Int).toNat then A1 else (A1 : Option Addr).map (·.add ((1 : Int).toNat * 2))) := ⟨_, rfl⟩
           obtain ⟨c24, hc24⟩ : ∃ z_, z_ = c1 - (1 : Int).toNat := ⟨_, rfl⟩
           have hy24 : y286.length = l1.length - (1 : Int).toNat := (by rw [Ny286.out, List.length_drop] <;> omega)
           rw [show (l1).drop (1 : Int).toNat = y286 from Ny286.out.symm] at hr24
           replace hr24 : Kd.C k39 _ A24 y286.length y286 := (by rw [hA24]; exact hr24)
           rw [← hy24, ← hA24, ← hc24] at hcut24
           have HR289 := Aside0.mk hr24
           have HC289 := Aside0.mk (show y286.length ≤ c24 from by rw [hy24, hc24]; exact Nat.sub_le_sub_right hroom24 _)
           clear hr24 hC24 hroom24 hi024 hsz24 hc24
           have KY24 := Aside0.mk hy24
           have KA24 := Aside0.mk hA24
           clear hy24 hA24
           replace q24 := eq_true q24
           go_wp2_with (first | (go_at_call 35; (with_reducible refine (ih kj9 (by have := HK1.out; have := HJ9.out; omega) _ _ l0 _ _ y286 (wrap64 (a2 - t282)) t290 t291 _ ?side1 ?side2 ?side3 ?side4 A22.out).mono ?_); (case side1 => repeat (first | exact (Kd.C_below HR0.out HB.out) | (with_reducible refine Kd.C_alloc ?_ _) | (with_reducible refine Kd.C_drewN ?_ _) | (with_reducible refine Kd.C_drew ?_))); (case side2 => exact HC0.out); (case side3 => repeat (first | exact (Kd.C_below HR289.out HB.out) | (with_reducible refine Kd.C_alloc ?_ _) | (with_reducible refine Kd.C_drewN ?_ _) | (with_reducible refine Kd.C_drew ?_))); (case side4 => exact HC289.out); rintro e w25 ⟨v25, rfl, hwk, hb⟩; have HWR := Aside0.mk hwk; clear hwk; have n0_ := Aside0.mk (below_step (by repeat (first | (with_reducible first | exact HB.out | apply below_alloc | apply pw_below_drewN | apply below_drew1) | exact HB.out)) hb); have nw_ := Aside0.mk (weak_below hb (by (with_reducible repeat (first | refine weak_drewN ?_ _ | refine weak_drew ?_ | refine weak_alloc ?_ _)); exact HW.out)); clear HW; have HW := nw_; clear nw_; clear HB; have HB := n0_; clear n0_; (try clear hb); (try clear hb2); (try clear hk); (try clear hi)) | ((with_reducible refine gate_dst (N := 72) rfl ?_); refine weak_lit ?hg (N' := 72) ?hd (.slice Ao13 t271.length co13) ?hr ?_; (case hd => rfl); (case hg => rfl); (case hr => first | (go_simp; done) | (go_simp; rfl)); intro v72 w72 ho72 hb; have OW := Aside0.mk ho72; have GB := Aside0.mk (below_size (by repeat (first | (with_reducible first | exact HB.out | apply below_alloc | apply pw_below_drewN | apply below_drew1) | exact HB.out))); have n0_ := Aside0.mk (below_step (by repeat (first | (with_reducible first | exact HB.out | apply below_alloc | apply pw_below_drewN | apply below_drew1) | exact HB.out)) hb); have nr_ := Aside0.mk (weak_below hb (by (with_reducible repeat (first | refine weak_drewN ?_ _ | refine weak_drew ?_ | refine weak_alloc ?_ _)); exact HWR.out)); have GS := Aside0.mk (below_size hb); clear HB HWR; have HB := n0_; have HWR := nr_; clear n0_ nr_ hb ho72) | ((with_reducible refine gate_dst (N := 74) rfl ?_); (refine weak_append (n := y286.length) ?hg (N' := 74) ?hd (.tmp 72) (.tmp 73) ?ho ?hs ?hx OW.out ?hu HWR.out ?hn GS.out HB.out GB.out ?_; (case hd => rfl); (case hg => rfl); (case ho => rfl); (case hs => rfl); (case hx => rfl); (case hu => rfl); (case hn => (have z1_ := CG.out; have z2_ := KY24.out; omega)); intro v74 w74 hw74 hb74; have HWN := Aside0.mk (show Weak w74 v74 l1.length from weak_mono hw74 (by have z1_ := KY24.out; have z2_ := of_decide_eq_true c21b1; omega)); clear HB HWR; have HB := Aside0.mk hb74; clear hw74 hb74)))
           go_roundg kj9
           case measure => have := HK1.out; have := HJ9.out; omega
           case rel => exact ⟨_, (wrap64 (0 + t290)), (wrap64 (t281 + t291)), (wrap64 (x10_1 + 1)), rfl, (by first | rfl | (simp; done) | (simp [*]; done)), (by first | rfl | (simp; done) | (simp [*]; done)), H', ⟨by have := HK1.out; have := HJ9.out; omega⟩, ⟨by (with_reducible repeat (first | refine weak_drewN ?_ _ | refine weak_drew ?_ | refine weak_alloc ?_ _)); exact HWN.out⟩, ⟨by repeat (first | (with_reducible first | exact HB.out | apply below_alloc | apply pw_below_drewN | apply below_drew1) | exact HB.out)⟩⟩
          ·rw [if_neg c23] at H
           have c23b0 : decide (x9_1 < (wrap64 (t281 + t291))) = false := decide_eq_false c23
           clear c23
           have H' := Aside0.mk H
           clear H
           have q26 : (1 : Int) ≤ ((l1.length : Int) : Int) := of_decide_eq_true (by first | (with_reducible assumption) | assumption)
           obtain ⟨i026, hi026, _, hsz26, _⟩ := info_parts info39
           have hroom26 : l1.length ≤ c1 := HC1.out
           have hC26 : Kd.C k39 _ A1 l1.length l1 := HR1.out
           have hcut26 := cut_from (P := Try.prog) 23 39 .i64 Try.underlying23 hi026 2 hsz26 A1 l1.length c1 1 (by omega) q26
           have hr26 := Kd.C_drop (m := (1 : Int).toNat) (c := c1) hC26 (by omega) hroom26
           obtain ⟨A26, hA26⟩ : ∃ z_, z_ = (if c1 = (1 : Int).toNat then A1 else (A1 : Option Addr).map (·.add ((1 : Int).toNat * 2))) := ⟨_, rfl⟩
           obtain ⟨c26, hc26⟩ : ∃ z_, z_ = c1 - (1 : Int).toNat := ⟨_, rfl⟩
           have hy26 : y286.length = l1.length - (1 : Int).toNat := (by rw [Ny286.out, List.length_drop] <;> omega)
           rw [show (l1).drop (1 : Int).toNat = y286 from Ny286.out.symm] at hr26
           replace hr26 : Kd.C k39 _ A26 y286.length y286 := (by rw [hA26]; exact hr26)
           rw [← hy26, ← hA26, ← hc26] at hcut26
           have HR289 := Aside0.mk hr26
           have HC289 := Aside0.mk (show y286.length ≤ c26 from by rw [hy26, hc26]; exact Nat.sub_le_sub_right hroom26 _)
           clear hr26 hC26 hroom26 hi026 hsz26 hc26
           have KY26 := Aside0.mk hy26
           have KA26 := Aside0.mk hA26
           clear hy26 hA26
           replace q26 := eq_true q26
           go_wp2_with (first | (go_at_call 35; (with_reducible refine (ih kj9 (by have := HK1.out; have := HJ9.out; omega) _ _ l0 _ _ y286 (wrap64 (a2 - t282)) t290 t291 _ ?side1 ?side2 ?side3 ?side4 A22.out).mono ?_); (case side1 => repeat (first | exact (Kd.C_below HR0.out HB.out) | (with_reducible refine Kd.C_alloc ?_ _) | (with_reducible refine Kd.C_drewN ?_ _) | (with_reducible refine Kd.C_drew ?_))); (case side2 => exact HC0.out); (case side3 => repeat (first | exact (Kd.C_below HR289.out HB.out) | (with_reducible refine Kd.C_alloc ?_ _) | (with_reducible refine Kd.C_drewN ?_ _) | (with_reducible refine Kd.C_drew ?_))); (case side4 => exact HC289.out); rintro e w27 ⟨v27, rfl, hwk, hb⟩; clear hwk; have n0_ := Aside0.mk (below_step (by repeat (first | (with_reducible first | exact HB.out | apply below_alloc | apply pw_below_drewN | apply below_drew1) | exact HB.out)) hb); have nw_ := Aside0.mk (weak_below hb (by (with_reducible repeat (first | refine weak_drewN ?_ _ | refine weak_drew ?_ | refine weak_alloc ?_ _)); exact HW.out)); clear HW; have HW := nw_; clear nw_; clear HB; have HB := n0_; clear n0_; (try clear hb); (try clear hb2); (try clear hk); (try clear hi)))
           repeat (go_quiet (first | (go_at_call 35; (with_reducible refine (ih kj9 (by have := HK1.out; have := HJ9.out; omega) _ _ l0 _ _ y286 (wrap64 (a2 - t282)) t290 t291 _ ?side1 ?side2 ?side3 ?side4 A22.out).mono ?_); (case side1 => repeat (first | exact (Kd.C_below HR0.out HB.out) | (with_reducible refine Kd.C_alloc ?_ _) | (with_reducible refine Kd.C_drewN ?_ _) | (with_reducible refine Kd.C_drew ?_))); (case side2 => exact HC0.out); (case side3 => repeat (first | exact (Kd.C_below HR289.out HB.out) | (with_reducible refine Kd.C_alloc ?_ _) | (with_reducible refine Kd.C_drewN ?_ _) | (with_reducible refine Kd.C_drew ?_))); (case side4 => exact HC289.out); rintro e w27 ⟨v27, rfl, hwk, hb⟩; clear hwk; have n0_ := Aside0.mk (below_step (by repeat (first | (with_reducible first | exact HB.out | apply below_alloc | apply pw_below_drewN | apply below_drew1) | exact HB.out)) hb); have nw_ := Aside0.mk (weak_below hb (by (with_reducible repeat (first | refine weak_drewN ?_ _ | refine weak_drew ?_ | refine weak_alloc ?_ _)); exact HW.out)); clear HW; have HW := nw_; clear nw_; clear HB; have HB := n0_; clear n0_; (try clear hb); (try clear hb2); (try clear hk); (try clear hi))); try go_wp2_with (first | (go_at_call 35; (with_reducible refine (ih kj9 (by have := HK1.out; have := HJ9.out; omega) _ _ l0 _ _ y286 (wrap64 (a2 - t282)) t290 t291 _ ?side1 ?side2 ?side3 ?side4 A22.out).mono ?_); (case side1 => repeat (first | exact (Kd.C_below HR0.out HB.out) | (with_reducible refine Kd.C_alloc ?_ _) | (with_reducible refine Kd.C_drewN ?_ _) | (with_reducible refine Kd.C_drew ?_))); (case side2 => exact HC0.out); (case side3 => repeat (first | exact (Kd.C_below HR289.out HB.out) | (with_reducible refine Kd.C_alloc ?_ _) | (with_reducible refine Kd.C_drewN ?_ _) | (with_reducible refine Kd.C_drew ?_))); (case side4 => exact HC289.out); rintro e w27 ⟨v27, rfl, hwk, hb⟩; clear hwk; have n0_ := Aside0.mk (below_step (by repeat (first | (with_reducible first | exact HB.out | apply below_alloc | apply pw_below_drewN | apply below_drew1) | exact HB.out)) hb); have nw_ := Aside0.mk (weak_below hb (by (with_reducible repeat (first | refine weak_drewN ?_ _ | refine weak_drew ?_ | refine weak_alloc ?_ _)); exact HW.out)); clear HW; have HW := nw_; clear nw_; clear HB; have HB := n0_; clear n0_; (try clear hb); (try clear hb2); (try clear hk); (try clear hi))))
           go_roundg kj9
           case measure => have := HK1.out; have := HJ9.out; omega
           case rel => exact ⟨_, (x8_1), (x9_1), (wrap64 (x10_1 + 1)), rfl, (by first | rfl | (simp; done) | (simp [*]; done)), (by first | rfl | (simp; done) | (simp [*]; done)), H', ⟨by have := HK1.out; have := HJ9.out; omega⟩, ⟨(by (with_reducible repeat (first | refine weak_drewN ?_ _ | refine weak_drew ?_ | refine weak_alloc ?_ _)); exact HW.out)⟩, ⟨by repeat (first | (with_reducible first | exact HB.out | apply below_alloc | apply pw_below_drewN | apply below_drew1) | exact HB.out)⟩⟩
         ·rw [if_neg c21] at H
          exact absurd H (by simp)
     ·rw [if_neg c8] at H
      exact absurd H (by simp)
    ·rw [if_neg c6] at H
     have c6b0 : decide (x10_1 < (ji5)) = false := decide_eq_false c6
     clear c6
     simp only [Option.some.injEq, Prod.mk.injEq] at H
     obtain ⟨rfl, rfl⟩ := H
     go_wp2
     repeat (go_quiet (fail); try go_wp2)
     go_ret2
     exact ⟨_, rfl, by (with_reducible repeat (first | refine weak_drewN ?_ _ | refine weak_drew ?_ | refine weak_alloc ?_ _)); exact HW.out, by repeat (first | (with_reducible first | exact HB.out | apply below_alloc | apply pw_below_drewN | apply below_drew1) | exact HB.out)⟩



end Go.Proofs.Ytefinjjcbpdljaa.PB
