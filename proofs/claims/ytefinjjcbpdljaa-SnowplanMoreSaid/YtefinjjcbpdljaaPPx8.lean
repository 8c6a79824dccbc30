-- Written by a program of this session over the translation (wip/tools/pprint.py). Not trusted: Lean checks it.
-- halved
import Derived.Test.YtefinjjcbpdljaaPPxD
import Derived.Maps.OwnSet
import Derived.Carry
import Derived.Test.YtefinjjcbpdljaaPPx7
namespace Go.Proofs.Ytefinjjcbpdljaa.PB
open Go.RowKit Go.Proofs.YtefinjjcbpdljaaW.PrintWords Go.Proofs.YtefinjjcbpdljaaW.PrintLast Go.Proofs.YtefinjjcbpdljaaW.PrintMore
attribute [local go_sem] max2_int min2_int max_two min_two max_three min_three max_four min_four   -- for this text's walks alone
set_option linter.unusedVariables false
set_option linter.unusedSimpArgs false

/-! ### snowplan_Right: function 18 -/

/-! ### the map of the identifiers that were met, as a list of keys -/

/-- Block B is a map[int]bool that holds true at the keys s, and nothing else. -/
def SeenMap (W : World) (B : Nat) (s : List Int) : Prop :=
 W.ownsMap (H := Unit) Try.prog 3 (plainElem Try.prog 4) B s.length (Maps.setOf (.lit (.bool true)) (s.map fun x => Lit.int .i64 x))
theorem seen_law : Maps.Keyed Try.prog 3 := Maps.int_keyed Try.underlying3
theorem seen_key (x : Int) : WideAt.IsKeyLit (Lit.int .i64 x) := by first | exact ⟨_, rfl⟩ | exact .inr ⟨_, rfl⟩ | trivial | simp [WideAt.IsKeyLit]
theorem seen_lt {W : World} {B : Nat} {s : List Int} (h : SeenMap W B s) : B < W.heap.size := World.ownsMap.lt h
theorem seen_heap {W W' : World} {B : Nat} {s : List Int} (h : SeenMap W B s) (e : W'.heap[B]? = W.heap[B]?) : SeenMap W' B s := by
 obtain ⟨es, clock, hb, r⟩ := h
 exact ⟨es, clock, e.trans hb, r⟩
theorem seen_below {W W' : World} {B : Nat} {s : List Int} (h : SeenMap W B s) (hb : Below W.heap.size W W') : SeenMap W' B s := seen_heap h (hb.block B (seen_lt h))
theorem seen_set {W : World} {B : Nat} {s : List Int} (h : SeenMap W B s) {g j : Nat} (hne : B ≠ g) (u : Value) : SeenMap (W.setCell ⟨g, j, none⟩ u) B s := seen_heap h (Below.heap_setCell W ⟨g, j, none⟩ u B hne)
theorem seen_drewN {W : World} {B : Nat} {s : List Int} (h : SeenMap W B s) (n : Nat) : SeenMap (W.drewN n) B s := h
theorem seen_drew {W : World} {B : Nat} {s : List Int} (h : SeenMap W B s) : SeenMap W.drew B s := h
theorem seen_ne {W : World} {B g : Nat} {s : List Int} (h : SeenMap W B s) (hg : g = W.heap.size) : B ≠ g := by have := seen_lt h; omega
theorem seen_made {W : World} {g : Nat} (h : W.heap.size = g) : SeenMap (W.alloc (.map #[] 0)) g [] := by subst h; exact World.ownsMap_made W Try.prog 3 _
theorem seen_has (s : List Int) (x : Int) : Maps.has (Maps.setOf (H := Unit) (.lit (.bool true)) (s.map fun x => Lit.int .i64 x)) (.int .i64 x) = seenB s x := by
 rw [Maps.has_setOf _ _ _ (fun y hy => by obtain ⟨z, _, rfl⟩ := List.mem_map.1 hy; exact seen_key z), List.any_map]
 unfold seenB
 congr 1
 funext y
 simp only [Function.comp]
 by_cases h : y = x
 ·subst h; simp [Lit.sameKey]
 ·rw [Maps.sameKey_ne (by simp [h])]; simp [h]
theorem seen_at (s : List Int) (x : Int) : (Maps.setOf (H := Unit) (.lit (.bool true)) (s.map fun x => Lit.int .i64 x)).atKey (.int .i64 x) (.lit (.bool false)) = .lit (.bool (seenB s x)) := by
 have gen : ∀ (l : List Int) (D : DataW Unit), Maps.IsMap D → (∀ y, D.atKey (.int .i64 y) (.lit (.bool false)) = .lit (.bool true) ∨ D.atKey (.int .i64 y) (.lit (.bool false)) = .lit (.bool false)) →
   (l.foldl (fun m y => m.put (.int .i64 y) (.lit (.bool true))) D).atKey (.int .i64 x) (.lit (.bool false)) = if seenB l x = true then .lit (.bool true) else D.atKey (.int .i64 x) (.lit (.bool false)) := by
  intro l
  induction l with
  | nil => intro D _ _; rfl
  | cons y l ih =>
   intro D hD ht
   rw [List.foldl_cons, ih _ (hD.put _ _) (fun z => by
    by_cases h : z = y
    ·subst h; exact .inl (Maps.atKey_put_same hD (seen_key z) _ _)
    ·rw [Maps.atKey_put_other (by simp [h])]; exact ht z)]
   by_cases hx : y = x
   ·subst hx
    rw [Maps.atKey_put_same hD (seen_key y)]
    have e : seenB (y :: l) y = true := by simp [seenB]
    rw [if_pos e]
    split <;> rfl
   ·rw [Maps.atKey_put_other (by simp; exact fun h => hx h.symm)]
    have e : seenB (y :: l) x = seenB l x := by simp [seenB, hx]
    rw [e]
 have h := gen s (.map []) Maps.isMap_empty (fun y => .inr rfl)
 rw [Maps.setOf, List.foldl_map, h]
 cases seenB s x <;> rfl
theorem seen_zero (W : World) : (zeroValue 4).run Try.prog W = .ok (.bool false) W := by kernel_rfl
theorem plain_bool_inv {P : Program} {e : TypeId} (he : P.underlying e = some .bool) {v : Value} {x : Bool} {ps : List MemPlace} (h : plainElem (H := Unit) P e v = some (.lit (.bool x), ps)) : v = .bool x := by
 unfold plainElem at h
 rw [he] at h
 cases v <;> simp at h
 rw [h.1]
theorem seen_look {W : World} {B : Nat} {s : List Int} (h : SeenMap W B s) {x : Int} (hx : 1 ≤ x ∧ x ≤ 9999) : (Instr.lookup 68 (.map (some B)) (.int .i64 x) false).run Try.prog W = .ok (.bool (seenB s x)) W := by
 have hw : (Lit.int .i64 x).wf = true := by simp [Lit.wf, IntKind.min, IntKind.max, IntKind.bits, IntKind.signed]; omega
 obtain ⟨v, ps, hrun, hv⟩ := World.ownsMap.lookup h seen_law Try.underlying68 (seen_zero W) (plainElem_bool Try.underlying4 false) (Maps.keyOf_int_mk Try.underlying3 hw)
 rw [seen_at] at hv
 obtain rfl := plain_bool_inv Try.underlying4 hv
 exact hrun
theorem seen_store {W : World} {B : Nat} {s : List Int} (h : SeenMap W B s) {x : Int} (hx : 1 ≤ x ∧ x ≤ 9999) (hl : s.length < maxLen) :
  ∃ W', (Instr.mapUpdate 68 (.map (some B)) (.int .i64 x) (.bool true)).run Try.prog W = .ok () W' ∧ SeenMap W' B (s ++ [x]) ∧ W.grownBy W' (some B) := by
 have hw : (Lit.int .i64 x).wf = true := by simp [Lit.wf, IntKind.min, IntKind.max, IntKind.bits, IntKind.signed]; omega
 obtain ⟨W', hrun, ho, hg⟩ := World.ownsMap.update h seen_law Try.underlying68 hl (Maps.keyOf_int_mk Try.underlying3 hw) (plainElem_bool Try.underlying4 true)
 refine ⟨W', hrun, ?_, hg⟩
 unfold SeenMap
 rw [List.map_append, List.map_singleton, Maps.setOf_snoc, List.length_append]
 exact ho
theorem w64_ {x : Int} (h0 : -9223372036854775808 ≤ x) (h1 : x ≤ 9223372036854775807) : wrap64 x = x := by unfold wrap64; omega
theorem snowplan_Right.mono_l : ∀ k, (∀ y0 y1 y2, LeO (snowplan_Right.j0 k y0 y1 y2) (snowplan_Right.j0 (k + 1) y0 y1 y2)) ∧ (∀ y0 y1 y2 y3 y4, LeO (snowplan_Right.l0 k y0 y1 y2 y3 y4) (snowplan_Right.l0 (k + 1) y0 y1 y2 y3 y4)) ∧ (∀ y0 y1 y2 y3 y4 y5 y6 y7 y8 y9, LeO (snowplan_Right.j2 k y0 y1 y2 y3 y4 y5 y6 y7 y8 y9) (snowplan_Right.j2 (k + 1) y0 y1 y2 y3 y4 y5 y6 y7 y8 y9)) ∧ (∀ y0 y1 y2, LeO (snowplan_Right.l1 k y0 y1 y2) (snowplan_Right.l1 (k + 1) y0 y1 y2))
 | 0 => ⟨fun _ _ _ r h => by simp [snowplan_Right.j0] at h, fun _ _ _ _ _ r h => by simp [snowplan_Right.l0] at h, fun _ _ _ _ _ _ _ _ _ _ r h => by simp [snowplan_Right.j2] at h, fun _ _ _ r h => by simp [snowplan_Right.l1] at h⟩
 | k + 1 => by
  obtain ⟨ih0, ih1, ih2, ih3⟩ := snowplan_Right.mono_l k
  refine ⟨?_, ?_, ?_, ?_⟩
  ·intro y0 y1 y2
   unfold snowplan_Right.j0
   repeat' first
   | (with_reducible exact ih0 _ _ _)
   | (with_reducible exact ih1 _ _ _ _ _)
   | (with_reducible exact ih2 _ _ _ _ _ _ _ _ _ _)
   | (with_reducible exact ih3 _ _ _)
   | (with_reducible exact LeO.refl _)
   | (with_reducible exact LeO.none _)
   | (with_reducible refine LeO.ite ?_ ?_)
   | (with_reducible refine LeO.bind ?_ (fun _ => ?_))
   | exact ih0 _ _ _
   | exact ih1 _ _ _ _ _
   | exact ih2 _ _ _ _ _ _ _ _ _ _
   | exact ih3 _ _ _
   | exact LeO.none _
   | refine LeO.ite ?_ ?_
   | refine LeO.bind ?_ (fun _ => ?_)
  ·intro y0 y1 y2 y3 y4
   unfold snowplan_Right.l0
   repeat' first
   | (with_reducible exact ih0 _ _ _)
   | (with_reducible exact ih1 _ _ _ _ _)
   | (with_reducible exact ih2 _ _ _ _ _ _ _ _ _ _)
   | (with_reducible exact ih3 _ _ _)
   | (with_reducible exact LeO.refl _)
   | (with_reducible exact LeO.none _)
   | (with_reducible refine LeO.ite ?_ ?_)
   | (with_reducible refine LeO.bind ?_ (fun _ => ?_))
   | exact ih0 _ _ _
   | exact ih1 _ _ _ _ _
   | exact ih2 _ _ _ _ _ _ _ _ _ _
   | exact ih3 _ _ _
   | exact LeO.none _
   | refine LeO.ite ?_ ?_
   | refine LeO.bind ?_ (fun _ => ?_)
  ·intro y0 y1 y2 y3 y4 y5 y6 y7 y8 y9
   unfold snowplan_Right.j2
   repeat' first
   | (with_reducible exact ih0 _ _ _)
   | (with_reducible exact ih1 _ _ _ _ _)
   | (with_reducible exact ih2 _ _ _ _ _ _ _ _ _ _)
   | (with_reducible exact ih3 _ _ _)
   | (with_reducible exact LeO.refl _)
   | (with_reducible exact LeO.none _)
   | (with_reducible refine LeO.ite ?_ ?_)
   | (with_reducible refine LeO.bind ?_ (fun _ => ?_))
   | exact ih0 _ _ _
   | exact ih1 _ _ _ _ _
   | exact ih2 _ _ _ _ _ _ _ _ _ _
   | exact ih3 _ _ _
   | exact LeO.none _
   | refine LeO.ite ?_ ?_
   | refine LeO.bind ?_ (fun _ => ?_)
  ·intro y0 y1 y2
   unfold snowplan_Right.l1
   repeat' first
   | (with_reducible exact ih0 _ _ _)
   | (with_reducible exact ih1 _ _ _ _ _)
   | (with_reducible exact ih2 _ _ _ _ _ _ _ _ _ _)
   | (with_reducible exact ih3 _ _ _)
   | (with_reducible exact LeO.refl _)
   | (with_reducible exact LeO.none _)
   | (with_reducible refine LeO.ite ?_ ?_)
   | (with_reducible refine LeO.bind ?_ (fun _ => ?_))
   | exact ih0 _ _ _
   | exact ih1 _ _ _ _ _
   | exact ih2 _ _ _ _ _ _ _ _ _ _
   | exact ih3 _ _ _
   | exact LeO.none _
   | refine LeO.ite ?_ ?_
   | refine LeO.bind ?_ (fun _ => ?_)
theorem snowplan_Right.mono : ∀ a0 a1 k, LeO (snowplan_Right.f k a0 a1) (snowplan_Right.f (k + 1) a0 a1) := by
 intro a0 a1 k
 obtain ⟨ih0, ih1, ih2, ih3⟩ := snowplan_Right.mono_l k
 unfold snowplan_Right.f
 repeat' first
   | (with_reducible exact ih0 _ _ _)
   | (with_reducible exact ih1 _ _ _ _ _)
   | (with_reducible exact ih2 _ _ _ _ _ _ _ _ _ _)
   | (with_reducible exact ih3 _ _ _)
   | (with_reducible exact LeO.refl _)
   | (with_reducible exact LeO.none _)
   | (with_reducible refine LeO.ite ?_ ?_)
   | (with_reducible refine LeO.bind ?_ (fun _ => ?_))
   | exact ih0 _ _ _
   | exact ih1 _ _ _ _ _
   | exact ih2 _ _ _ _ _ _ _ _ _ _
   | exact ih3 _ _ _
   | exact LeO.none _
   | refine LeO.ite ?_ ?_
   | refine LeO.bind ?_ (fun _ => ?_)
set_option maxHeartbeats 8000000 in
set_option maxRecDepth 100000 in
theorem snowplan_Right.calls (k : Nat) (A0 : Option Addr) (c0 : Nat) (l0 : List (S42)) (A1 : Option Addr) (c1 : Nat) (l1 : List (S39)) (r : Int) (w : World) (hr0 : Kd.C k42 w A0 l0.length l0) (hc0 : l0.length ≤ c0) (hr1 : Kd.C k39 w A1 l1.length l1) (hc1 : l1.length ≤ c1) (h : snowplan_Right.f k l0 l1 = some r) :
  Calls Try.prog 18 #[.slice A0 l0.length c0, .slice A1 l1.length c1] w fun e w' => e = .returned (.int .i64 r) ∧ Below w.heap.size w w' := by
 have hu42 := Try.underlying42
 have hu39 := Try.underlying39
 have HR0 := Aside0.mk hr0
 have HC0 := Aside0.mk hc0
 clear hr0 hc0
 have HR1 := Aside0.mk hr1
 have HC1 := Aside0.mk hc1
 clear hr1 hc1
 have HB := Aside0.mk (Below.refl w.heap.size w)
 have H : (if (l0.length : Int) > 5 then (snowplan_Right.j0 k l0 l1 true) else (snowplan_Right.j0 k l0 l1 (decide ((l1.length : Int) > 3)))) = some r := h
 clear h
 have HC3 := Aside0.mk H
 clear H
 go_enter Try.func18, Try.ntmps18
 go_upto_region 1 with (fail)
 go_cut [17] (fun v17 wc => ∃ (kq : Nat) (x17_2 : Bool), v17 = .bool x17_2 ∧ Aside0 (snowplan_Right.j0 kq l0 l1 x17_2 = some r) ∧ Aside0 (kq ≤ k) ∧ Aside0 (Below w.heap.size w wc))
 case first =>
  have H := HC3.out
  clear HC3
  by_cases c4 : (l0.length : Int) > 5
  ·rw [if_pos c4] at H
   have c4b0 : decide (5 < (l0.length : Int)) = true := decide_eq_true c4
   have c4b1 : decide (5 < l0.length) = true := decide_eq_true (by omega)
   clear c4
   (first | rw [c4b0] | (simp only [i64_w, i32_w]; rw [c4b0]) | skip)
   have H' := Aside0.mk H
   clear H
   go_wp2
   go_meet
   case rel => exact ⟨_, (true), (by first | rfl | (simp; done) | (simp [*]; done)), H', ⟨by first | omega | exact Nat.le_refl _⟩, ⟨by repeat (first | (with_reducible first | exact HB.out | apply below_alloc | apply pw_below_drewN | apply below_drew1) | exact HB.out)⟩⟩
  ·rw [if_neg c4] at H
   have c4b0 : decide (5 < (l0.length : Int)) = false := decide_eq_false c4
   have c4b1 : decide (5 < l0.length) = false := decide_eq_false (by omega)
   clear c4
   (first | rw [c4b0] | (simp only [i64_w, i32_w]; rw [c4b0]) | skip)
   have H' := Aside0.mk H
   clear H
   go_wp2
   go_meet
   case rel => exact ⟨_, (decide ((l1.length : Int) > 3)), (by first | rfl | (simp; done) | (simp [*]; done)), H', ⟨by first | omega | exact Nat.le_refl _⟩, ⟨by repeat (first | (with_reducible first | exact HB.out | apply below_alloc | apply pw_below_drewN | apply below_drew1) | exact HB.out)⟩⟩
 case rest =>
  clear HC3
  try clear c1
  try clear p2
  try clear c4
  try clear c4b0
  try clear c4b1
  obtain ⟨kq, x17_2, rfl, HA, HJ2, HB⟩ := hcut
  cases kq with
  | zero => exact absurd HA.out (by simp [snowplan_Right.j0])
  | succ kj2 =>
   have H := HA.out
   clear HA
   simp only [snowplan_Right.j0] at H
   by_cases c5 : x17_2 = true
   ·subst c5
    have H1 : (some 4) = some r := by rw [if_pos rfl] at H; exact H
    clear H
    have H := H1
    clear H1
    obtain rfl := Option.some.inj H
    go_wp2
    go_ret
    exact ⟨by first | rfl | (simp [errW_none, errW_some] <;> rfl) | (simp [*, errW_none, errW_some] <;> rfl), by repeat (first | (with_reducible first | exact HB.out | apply below_alloc | apply pw_below_drewN | apply below_drew1) | exact HB.out)⟩
   ·replace c5 := Bool.eq_false_iff.mpr c5
    subst c5
    have H1 : (snowplan_Right.l0 kj2 l1 [] l0 (l0.length : Int) 0) = some r := by rw [if_neg (show ¬ (false = true) by decide)] at H; exact H
    clear H
    have H := H1
    clear H1
    have H' := Aside0.mk H
    clear H
    obtain ⟨gM, hgM⟩ : ∃ g, wc.heap.size = g := ⟨_, rfl⟩
    have hmm : (Instr.makeMap 68 none).run Try.prog wc = .ok (.map (some gM)) (wc.alloc (.map #[] 0)) := by rw [← hgM]; rfl
    have HM := Aside0.mk (seen_made hgM)
    have GM := Aside0.mk ((by rw [← hgM]; exact below_size HB.out) : w.heap.size ≤ gM)
    clear hgM
    go_wp2
    clear hmm
    go_loopg [21] kj2 (fun kq v21 w' => ∃ (x5_2 : List Int) (x21_2 : Int), v21 = .int .i64 x21_2 ∧ Aside0 (snowplan_Right.l0 kq l1 x5_2 l0 (l0.length : Int) x21_2 = some r) ∧ Aside0 (kq ≤ kj2) ∧ Aside0 (SeenMap w' gM x5_2) ∧ Aside0 ((x5_2.length : Int) = x21_2) ∧ Aside0 (Below w.heap.size w w'))
    case atStart => exact ⟨[], (0), (by first | rfl | (simp; done) | (simp [*]; done)), H', ⟨Nat.le_refl _⟩, ⟨HM.out⟩, ⟨rfl⟩, ⟨by repeat (first | (with_reducible first | exact HB.out | apply below_alloc | apply pw_below_drewN | apply below_drew1) | exact HB.out)⟩⟩
    case round =>
     clear H'
     try clear c1
     try clear p2
     try clear c4
     try clear c4b0
     try clear c4b1
     try clear c5
     try clear p2
     clear HM
     obtain ⟨x5_2, x21_2, rfl, HA, HK2, HM, HL, HB⟩ := hrel
     cases gk with
     | zero => exact absurd HA.out (by simp [snowplan_Right.l0])
     | succ k2 =>
      have H := HA.out
      clear HA
      simp only [snowplan_Right.l0] at H
      by_cases c6 : x21_2 < (l0.length : Int)
      ·rw [if_pos c6] at H
       have c6b0 : decide (x21_2 < (l0.length : Int)) = true := decide_eq_true c6
       clear c6
       by_cases c7 : 0 ≤ x21_2
       ·rw [if_pos c7] at H
        have c7b0 : decide (0 ≤ x21_2) = true := decide_eq_true c7
        clear c7
        by_cases c8 : x21_2 < (l0.length : Int)
        ·rw [if_pos c8] at H
         have c8b0 : decide (x21_2 < (l0.length : Int)) = true := decide_eq_true c8
         clear c8
         have HC9 := Aside0.mk H
         clear H
         have p182 : 0 ≤ (x21_2 : Int) := of_decide_eq_true (by first | (with_reducible assumption) | assumption)
         have q182 : x21_2 < (l0.length : Int) := of_decide_eq_true (by first | (with_reducible assumption) | assumption)
         obtain ⟨ad182, e182, hx182_0, hx182_1, hx182_2, hx182_3⟩ := at_T42 HR0.out x21_2 p182 q182
         cases e182
         replace hx182_0 := (HB.out.cell (World.block_lt_of_cell? w _ hx182_0)).trans hx182_0
         replace hx182_1 := (HB.out.cell (World.block_lt_of_cell? w _ hx182_1)).trans hx182_1
         replace hx182_2 := (HB.out.cell (World.block_lt_of_cell? w _ hx182_2)).trans hx182_2
         replace hx182_3 := (HB.out.cell (World.block_lt_of_cell? w _ hx182_3)).trans hx182_3
         replace p182 := eq_true p182
         replace q182 := eq_true q182
         go_upto_region 7 with (first | ((with_reducible refine gate_dst (N := 7) rfl ?_); (try (refine gate_guard (by rfl) ?_; dsimp only)); refine box_event ?hg (N := 7) ?hd (cs := #[.int .i64 0, .int .i64 0, .int .i64 0, .int .i64 0]) (t := 42) ?hr ?_; (case hd => rfl); (case hg => rfl); (case hr => first | (go_simp; done) | (go_simp; rfl)); intro gb183 hg w10 hbox hb; have n0_ := Aside0.mk (below_step (by repeat (first | (with_reducible first | exact HB.out | apply below_alloc | apply pw_below_drewN | apply below_drew1) | exact HB.out)) hb); have n1_ := Aside0.mk (hbox); have n2_ := Aside0.mk ((by rw [hg]; exact (below_size (by repeat (first | (with_reducible first | exact HB.out | apply below_alloc | apply pw_below_drewN | apply below_drew1) | exact HB.out))) : w.heap.size ≤ gb183)); have n3_ := Aside0.mk ((by rw [hg]; exact (below_size (by repeat (first | (with_reducible first | exact HB.out | apply below_alloc | apply pw_below_drewN | apply below_drew1) | exact HB.out))) : w.heap.size ≤ gb183)); have n4_ := Aside0.mk (seen_below (by (with_reducible repeat (first | refine seen_drewN ?_ _ | refine seen_drew ?_)); exact HM.out) hb); have n5_ := Aside0.mk (seen_ne (by (with_reducible repeat (first | refine seen_drewN ?_ _ | refine seen_drew ?_)); exact HM.out) hg); clear HM; have HM := n4_; have NM := n5_; clear n4_ n5_; clear HB; have HB := n0_; have BK183 := n1_; have GW183 := n2_; have GE183 := n3_; clear n0_ n1_ n2_ n3_; clear hb hbox hg; have hcz11_0 : w10.cell? ⟨gb183, 0, none⟩ = some (.int .i64 0) := (blk_cell BK183.out 0).trans rfl; have hcz11_1 : w10.cell? ⟨gb183, 1, none⟩ = some (.int .i64 0) := (blk_cell BK183.out 1).trans rfl; have hcz11_2 : w10.cell? ⟨gb183, 2, none⟩ = some (.int .i64 0) := (blk_cell BK183.out 2).trans rfl; have hcz11_3 : w10.cell? ⟨gb183, 3, none⟩ = some (.int .i64 0) := (blk_cell BK183.out 3).trans rfl; have hfz11_0 := blk_frozen BK183.out 0; have hfz11_1 := blk_frozen BK183.out 1; have hfz11_2 := blk_frozen BK183.out 2; have hfz11_3 := blk_frozen BK183.out 3))
         (try simp only [Act.put, List.setIfInBounds_toArray, List.set_cons_zero, List.set_cons_succ])
         go_cut [25] (fun v25 wc => ∃ (kq : Nat) (x25_8 : Bool), v25 = .bool x25_8 ∧ Aside0 (snowplan_Right.j2 kq l1 x5_2 l0 (l0.length : Int) x21_2 x25_8 ((rd_T42 l0 x21_2).f0) ((rd_T42 l0 x21_2).f1) ((rd_T42 l0 x21_2).f2) ((rd_T42 l0 x21_2).f3) = some r) ∧ Aside0 (kq ≤ k2) ∧ Aside0 (wc.heap[gb183]? = some (.cells #[.int .i64 ((rd_T42 l0 x21_2).f0), .int .i64 ((rd_T42 l0 x21_2).f1), .int .i64 ((rd_T42 l0 x21_2).f2), .int .i64 ((rd_T42 l0 x21_2).f3)] 42 (0, 0))) ∧ Aside0 (SeenMap wc gM x5_2) ∧ Aside0 (x25_8 = false → 1 ≤ (rd_T42 l0 x21_2).f0 ∧ (rd_T42 l0 x21_2).f0 ≤ 9999) ∧ Aside0 (Below w.heap.size w wc))
         case first =>
          have H := HC9.out
          clear HC9
          by_cases c12 : ((rd_T42 l0 x21_2).f0) < 1
          ·rw [if_pos c12] at H
           have c12b0 : decide (((rd_T42 l0 x21_2).f0) < 1) = true := decide_eq_true c12
           clear c12
           (first | rw [c12b0] | (simp only [i64_w, i32_w]; rw [c12b0]) | skip)
           have H' := Aside0.mk H
           clear H
           have hcz13_0 : w10.cell? ⟨gb183, 0, none⟩ = some (.int .i64 0) := (blk_cell BK183.out 0).trans rfl
           have hcz13_1 : w10.cell? ⟨gb183, 1, none⟩ = some (.int .i64 0) := (blk_cell BK183.out 1).trans rfl
           have hcz13_2 : w10.cell? ⟨gb183, 2, none⟩ = some (.int .i64 0) := (blk_cell BK183.out 2).trans rfl
           have hcz13_3 : w10.cell? ⟨gb183, 3, none⟩ = some (.int .i64 0) := (blk_cell BK183.out 3).trans rfl
           have hfz13_0 := blk_frozen BK183.out 0
           have hfz13_1 := blk_frozen BK183.out 1
           have hfz13_2 := blk_frozen BK183.out 2
           have hfz13_3 := blk_frozen BK183.out 3
           go_wp2
           go_meet
           case rel => exact ⟨_, (true), (by first | rfl | (simp; done) | (simp [*]; done)), H', ⟨by have := HJ2.out; have := HK2.out; first | omega | exact Nat.le_refl _⟩, ⟨by (with_reducible repeat (first | refine blk_drewN ?_ _ | refine blk_drew ?_ | refine blk_alloc ?_ _)); refine blk_put (cs := #[.int .i64 ((rd_T42 l0 x21_2).f0), .int .i64 ((rd_T42 l0 x21_2).f1), .int .i64 ((rd_T42 l0 x21_2).f2), .int .i64 0]) ?_ 3 _ rfl; (with_reducible repeat (first | refine blk_drewN ?_ _ | refine blk_drew ?_ | refine blk_alloc ?_ _)); refine blk_put (cs := #[.int .i64 ((rd_T42 l0 x21_2).f0), .int .i64 ((rd_T42 l0 x21_2).f1), .int .i64 0, .int .i64 0]) ?_ 2 _ rfl; (with_reducible repeat (first | refine blk_drewN ?_ _ | refine blk_drew ?_ | refine blk_alloc ?_ _)); refine blk_put (cs := #[.int .i64 ((rd_T42 l0 x21_2).f0), .int .i64 0, .int .i64 0, .int .i64 0]) ?_ 1 _ rfl; (with_reducible repeat (first | refine blk_drewN ?_ _ | refine blk_drew ?_ | refine blk_alloc ?_ _)); refine blk_put (cs := #[.int .i64 0, .int .i64 0, .int .i64 0, .int .i64 0]) ?_ 0 _ rfl; (with_reducible repeat (first | refine blk_drewN ?_ _ | refine blk_drew ?_ | refine blk_alloc ?_ _)); exact BK183.out⟩, ⟨by (with_reducible repeat (first | refine seen_drewN ?_ _ | refine seen_drew ?_ | refine seen_set ?_ NM.out _)); exact HM.out⟩, ⟨by first | (intro z_; exact absurd z_ (by decide)) | (intro _; have z1_ := of_decide_eq_false c12b0; have z2_ := of_decide_eq_false c14b0; omega)⟩, ⟨by repeat (first | (with_reducible first | exact HB.out | apply below_alloc | apply pw_below_drewN | apply below_drew1 | refine below_set ?_ GE183.out) | exact HB.out)⟩⟩
          ·rw [if_neg c12] at H
           have c12b0 : decide (((rd_T42 l0 x21_2).f0) < 1) = false := decide_eq_false c12
           clear c12
           (first | rw [c12b0] | (simp only [i64_w, i32_w]; rw [c12b0]) | skip)
           by_cases c14 : ((rd_T42 l0 x21_2).f0) > 9999
           ·rw [if_pos c14] at H
            have c14b0 : decide (9999 < ((rd_T42 l0 x21_2).f0)) = true := decide_eq_true c14
            clear c14
            have H' := Aside0.mk H
            clear H
            have hcz15_0 : w10.cell? ⟨gb183, 0, none⟩ = some (.int .i64 0) := (blk_cell BK183.out 0).trans rfl
            have hcz15_1 : w10.cell? ⟨gb183, 1, none⟩ = some (.int .i64 0) := (blk_cell BK183.out 1).trans rfl
            have hcz15_2 : w10.cell? ⟨gb183, 2, none⟩ = some (.int .i64 0) := (blk_cell BK183.out 2).trans rfl
            have hcz15_3 : w10.cell? ⟨gb183, 3, none⟩ = some (.int .i64 0) := (blk_cell BK183.out 3).trans rfl
            have hfz15_0 := blk_frozen BK183.out 0
            have hfz15_1 := blk_frozen BK183.out 1
            have hfz15_2 := blk_frozen BK183.out 2
            have hfz15_3 := blk_frozen BK183.out 3
            go_wp2
            go_meet
            case rel => exact ⟨_, (true), (by first | rfl | (simp; done) | (simp [*]; done)), H', ⟨by have := HJ2.out; have := HK2.out; first | omega | exact Nat.le_refl _⟩, ⟨by (with_reducible repeat (first | refine blk_drewN ?_ _ | refine blk_drew ?_ | refine blk_alloc ?_ _)); refine blk_put (cs := #[.int .i64 ((rd_T42 l0 x21_2).f0), .int .i64 ((rd_T42 l0 x21_2).f1), .int .i64 ((rd_T42 l0 x21_2).f2), .int .i64 0]) ?_ 3 _ rfl; (with_reducible repeat (first | refine blk_drewN ?_ _ | refine blk_drew ?_ | refine blk_alloc ?_ _)); refine blk_put (cs := #[.int .i64 ((rd_T42 l0 x21_2).f0), .int .i64 ((rd_T42 l0 x21_2).f1), .int .i64 0, .int .i64 0]) ?_ 2 _ rfl; (with_reducible repeat (first | refine blk_drewN ?_ _ | refine blk_drew ?_ | refine blk_alloc ?_ _)); refine blk_put (cs := #[.int .i64 ((rd_T42 l0 x21_2).f0), .int .i64 0, .int .i64 0, .int .i64 0]) ?_ 1 _ rfl; (with_reducible repeat (first | refine blk_drewN ?_ _ | refine blk_drew ?_ | refine blk_alloc ?_ _)); refine blk_put (cs := #[.int .i64 0, .int .i64 0, .int .i64 0, .int .i64 0]) ?_ 0 _ rfl; (with_reducible repeat (first | refine blk_drewN ?_ _ | refine blk_drew ?_ | refine blk_alloc ?_ _)); exact BK183.out⟩, ⟨by (with_reducible repeat (first | refine seen_drewN ?_ _ | refine seen_drew ?_ | refine seen_set ?_ NM.out _)); exact HM.out⟩, ⟨by first | (intro z_; exact absurd z_ (by decide)) | (intro _; have z1_ := of_decide_eq_false c12b0; have z2_ := of_decide_eq_false c14b0; omega)⟩, ⟨by repeat (first | (with_reducible first | exact HB.out | apply below_alloc | apply pw_below_drewN | apply below_drew1 | refine below_set ?_ GE183.out) | exact HB.out)⟩⟩
           ·rw [if_neg c14] at H
            have c14b0 : decide (9999 < ((rd_T42 l0 x21_2).f0)) = false := decide_eq_false c14
            clear c14
            replace H := Option.bind_eq_some_iff.mp H
            obtain ⟨t184, A160, H⟩ := H
            replace H : (if t184 = true then ((snowplan_amount.f ((rd_T42 l0 x21_2).f2)).bind fun t185 => (if t185 = true then ((snowplan_amount.f ((rd_T42 l0 x21_2).f3)).bind fun t186 => (snowplan_Right.j2 k2 l1 x5_2 l0 (l0.length : Int) x21_2 (!t186) ((rd_T42 l0 x21_2).f0) ((rd_T42 l0 x21_2).f1) ((rd_T42 l0 x21_2).f2) ((rd_T42 l0 x21_2).f3))) else (snowplan_Right.j2 k2 l1 x5_2 l0 (l0.length : Int) x21_2 true ((rd_T42 l0 x21_2).f0) ((rd_T42 l0 x21_2).f1) ((rd_T42 l0 x21_2).f2) ((rd_T42 l0 x21_2).f3)))) else (snowplan_Right.j2 k2 l1 x5_2 l0 (l0.length : Int) x21_2 true ((rd_T42 l0 x21_2).f0) ((rd_T42 l0 x21_2).f1) ((rd_T42 l0 x21_2).f2) ((rd_T42 l0 x21_2).f3))) = some r := H
            have A16 := Aside0.mk A160
            clear A160
            by_cases c17 : t184 = true
            ·subst c17
             have H1 : ((snowplan_amount.f ((rd_T42 l0 x21_2).f2)).bind fun t185 => (if t185 = true then ((snowplan_amount.f ((rd_T42 l0 x21_2).f3)).bind fun t186 => (snowplan_Right.j2 k2 l1 x5_2 l0 (l0.length : Int) x21_2 (!t186) ((rd_T42 l0 x21_2).f0) ((rd_T42 l0 x21_2).f1) ((rd_T42 l0 x21_2).f2) ((rd_T42 l0 x21_2).f3))) else (snowplan_Right.j2 k2 l1 x5_2 l0 (l0.length : Int) x21_2 true ((rd_T42 l0 x21_2).f0) ((rd_T42 l0 x21_2).f1) ((rd_T42 l0 x21_2).f2) ((rd_T42 l0 x21_2).f3)))) = some r := by rw [if_pos rfl] at H; exact H
             clear H
             have H := H1
             clear H1
             replace H := Option.bind_eq_some_iff.mp H
             obtain ⟨t185, A180, H⟩ := H
             replace H : (if t185 = true then ((snowplan_amount.f ((rd_T42 l0 x21_2).f3)).bind fun t186 => (snowplan_Right.j2 k2 l1 x5_2 l0 (l0.length : Int) x21_2 (!t186) ((rd_T42 l0 x21_2).f0) ((rd_T42 l0 x21_2).f1) ((rd_T42 l0 x21_2).f2) ((rd_T42 l0 x21_2).f3))) else (snowplan_Right.j2 k2 l1 x5_2 l0 (l0.length : Int) x21_2 true ((rd_T42 l0 x21_2).f0) ((rd_T42 l0 x21_2).f1) ((rd_T42 l0 x21_2).f2) ((rd_T42 l0 x21_2).f3))) = some r := H
             have A18 := Aside0.mk A180
             clear A180
             by_cases c19 : t185 = true
             ·subst c19
              have H1 : ((snowplan_amount.f ((rd_T42 l0 x21_2).f3)).bind fun t186 => (snowplan_Right.j2 k2 l1 x5_2 l0 (l0.length : Int) x21_2 (!t186) ((rd_T42 l0 x21_2).f0) ((rd_T42 l0 x21_2).f1) ((rd_T42 l0 x21_2).f2) ((rd_T42 l0 x21_2).f3))) = some r := by rw [if_pos rfl] at H; exact H
              clear H
              have H := H1
              clear H1
              replace H := Option.bind_eq_some_iff.mp H
              obtain ⟨t186, A200, H⟩ := H
              replace H : (snowplan_Right.j2 k2 l1 x5_2 l0 (l0.length : Int) x21_2 (!t186) ((rd_T42 l0 x21_2).f0) ((rd_T42 l0 x21_2).f1) ((rd_T42 l0 x21_2).f2) ((rd_T42 l0 x21_2).f3)) = some r := H
              have A20 := Aside0.mk A200
              clear A200
              have H' := Aside0.mk H
              clear H
              have hcz21_0 : w10.cell? ⟨gb183, 0, none⟩ = some (.int .i64 0) := (blk_cell BK183.out 0).trans rfl
              have hcz21_1 : w10.cell? ⟨gb183, 1, none⟩ = some (.int .i64 0) := (blk_cell BK183.out 1).trans rfl
              have hcz21_2 : w10.cell? ⟨gb183, 2, none⟩ = some (.int .i64 0) := (blk_cell BK183.out 2).trans rfl
              have hcz21_3 : w10.cell? ⟨gb183, 3, none⟩ = some (.int .i64 0) := (blk_cell BK183.out 3).trans rfl
              have hfz21_0 := blk_frozen BK183.out 0
              have hfz21_1 := blk_frozen BK183.out 1
              have hfz21_2 := blk_frozen BK183.out 2
              have hfz21_3 := blk_frozen BK183.out 3
              go_wp2_with (first | (go_at_call 33; (with_reducible refine (snowplan_amount.calls ((rd_T42 l0 x21_2).f1) true _ A16.out).mono ?_); rintro e w' ⟨rfl, ⟨nd, rfl⟩⟩) | (go_at_call 33; (with_reducible refine (snowplan_amount.calls ((rd_T42 l0 x21_2).f2) true _ A18.out).mono ?_); rintro e w' ⟨rfl, ⟨nd, rfl⟩⟩) | (go_at_call 33; (with_reducible refine (snowplan_amount.calls ((rd_T42 l0 x21_2).f3) t186 _ A20.out).mono ?_); rintro e w' ⟨rfl, ⟨nd, rfl⟩⟩))
              go_meet
              case rel => exact ⟨_, (!t186), (by first | rfl | (simp; done) | (simp [*]; done)), H', ⟨by have := HJ2.out; have := HK2.out; first | omega | exact Nat.le_refl _⟩, ⟨by (with_reducible repeat (first | refine blk_drewN ?_ _ | refine blk_drew ?_ | refine blk_alloc ?_ _)); refine blk_put (cs := #[.int .i64 ((rd_T42 l0 x21_2).f0), .int .i64 ((rd_T42 l0 x21_2).f1), .int .i64 ((rd_T42 l0 x21_2).f2), .int .i64 0]) ?_ 3 _ rfl; (with_reducible repeat (first | refine blk_drewN ?_ _ | refine blk_drew ?_ | refine blk_alloc ?_ _)); refine blk_put (cs := #[.int .i64 ((rd_T42 l0 x21_2).f0), .int .i64 ((rd_T42 l0 x21_2).f1), .int .i64 0, .int .i64 0]) ?_ 2 _ rfl; (with_reducible repeat (first | refine blk_drewN ?_ _ | refine blk_drew ?_ | refine blk_alloc ?_ _)); refine blk_put (cs := #[.int .i64 ((rd_T42 l0 x21_2).f0), .int .i64 0, .int .i64 0, .int .i64 0]) ?_ 1 _ rfl; (with_reducible repeat (first | refine blk_drewN ?_ _ | refine blk_drew ?_ | refine blk_alloc ?_ _)); refine blk_put (cs := #[.int .i64 0, .int .i64 0, .int .i64 0, .int .i64 0]) ?_ 0 _ rfl; (with_reducible repeat (first | refine blk_drewN ?_ _ | refine blk_drew ?_ | refine blk_alloc ?_ _)); exact BK183.out⟩, ⟨by (with_reducible repeat (first | refine seen_drewN ?_ _ | refine seen_drew ?_ | refine seen_set ?_ NM.out _)); exact HM.out⟩, ⟨by first | (intro z_; exact absurd z_ (by decide)) | (intro _; have z1_ := of_decide_eq_false c12b0; have z2_ := of_decide_eq_false c14b0; omega)⟩, ⟨by repeat (first | (with_reducible first | exact HB.out | apply below_alloc | apply pw_below_drewN | apply below_drew1 | refine below_set ?_ GE183.out) | exact HB.out)⟩⟩
             ·replace c19 := Bool.eq_false_iff.mpr c19
              subst c19
              have H1 : (snowplan_Right.j2 k2 l1 x5_2 l0 (l0.length : Int) x21_2 true ((rd_T42 l0 x21_2).f0) ((rd_T42 l0 x21_2).f1) ((rd_T42 l0 x21_2).f2) ((rd_T42 l0 x21_2).f3)) = some r := by rw [if_neg (show ¬ (false = true) by decide)] at H; exact H
              clear H
              have H := H1
              clear H1
              have H' := Aside0.mk H
              clear H
              have hcz22_0 : w10.cell? ⟨gb183, 0, none⟩ = some (.int .i64 0) := (blk_cell BK183.out 0).trans rfl
              have hcz22_1 : w10.cell? ⟨gb183, 1, none⟩ = some (.int .i64 0) := (blk_cell BK183.out 1).trans rfl
              have hcz22_2 : w10.cell? ⟨gb183, 2, none⟩ = some (.int .i64 0) := (blk_cell BK183.out 2).trans rfl
              have hcz22_3 : w10.cell? ⟨gb183, 3, none⟩ = some (.int .i64 0) := (blk_cell BK183.out 3).trans rfl
              have hfz22_0 := blk_frozen BK183.out 0
              have hfz22_1 := blk_frozen BK183.out 1
              have hfz22_2 := blk_frozen BK183.out 2
              have hfz22_3 := blk_frozen BK183.out 3
              go_wp2_with (first | (go_at_call 33; (with_reducible refine (snowplan_amount.calls ((rd_T42 l0 x21_2).f1) true _ A16.out).mono ?_); rintro e w' ⟨rfl, ⟨nd, rfl⟩⟩) | (go_at_call 33; (with_reducible refine (snowplan_amount.calls ((rd_T42 l0 x21_2).f2) false _ A18.out).mono ?_); rintro e w' ⟨rfl, ⟨nd, rfl⟩⟩))
              go_meet
              case rel => exact ⟨_, (true), (by first | rfl | (simp; done) | (simp [*]; done)), H', ⟨by have := HJ2.out; have := HK2.out; first | omega | exact Nat.le_refl _⟩, ⟨by (with_reducible repeat (first | refine blk_drewN ?_ _ | refine blk_drew ?_ | refine blk_alloc ?_ _)); refine blk_put (cs := #[.int .i64 ((rd_T42 l0 x21_2).f0), .int .i64 ((rd_T42 l0 x21_2).f1), .int .i64 ((rd_T42 l0 x21_2).f2), .int .i64 0]) ?_ 3 _ rfl; (with_reducible repeat (first | refine blk_drewN ?_ _ | refine blk_drew ?_ | refine blk_alloc ?_ _)); refine blk_put (cs := #[.int .i64 ((rd_T42 l0 x21_2).f0), .int .i64 ((rd_T42 l0 x21_2).f1), .int .i64 0, .int .i64 0]) ?_ 2 _ rfl; (with_reducible repeat (first | refine blk_drewN ?_ _ | refine blk_drew ?_ | refine blk_alloc ?_ _)); refine blk_put (cs := #[.int .i64 ((rd_T42 l0 x21_2).f0), .int .i64 0, .int .i64 0, .int .i64 0]) ?_ 1 _ rfl; (with_reducible repeat (first | refine blk_drewN ?_ _ | refine blk_drew ?_ | refine blk_alloc ?_ _)); refine blk_put (cs := #[.int .i64 0, .int .i64 0, .int .i64 0, .int .i64 0]) ?_ 0 _ rfl; (with_reducible repeat (first | refine blk_drewN ?_ _ | refine blk_drew ?_ | refine blk_alloc ?_ _)); exact BK183.out⟩, ⟨by (with_reducible repeat (first | refine seen_drewN ?_ _ | refine seen_drew ?_ | refine seen_set ?_ NM.out _)); exact HM.out⟩, ⟨by first | (intro z_; exact absurd z_ (by decide)) | (intro _; have z1_ := of_decide_eq_false c12b0; have z2_ := of_decide_eq_false c14b0; omega)⟩, ⟨by repeat (first | (with_reducible first | exact HB.out | apply below_alloc | apply pw_below_drewN | apply below_drew1 | refine below_set ?_ GE183.out) | exact HB.out)⟩⟩
            ·replace c17 := Bool.eq_false_iff.mpr c17
             subst c17
             have H1 : (snowplan_Right.j2 k2 l1 x5_2 l0 (l0.length : Int) x21_2 true ((rd_T42 l0 x21_2).f0) ((rd_T42 l0 x21_2).f1) ((rd_T42 l0 x21_2).f2) ((rd_T42 l0 x21_2).f3)) = some r := by rw [if_neg (show ¬ (false = true) by decide)] at H; exact H
             clear H
             have H := H1
             clear H1
             have H' := Aside0.mk H
             clear H
             have hcz23_0 : w10.cell? ⟨gb183, 0, none⟩ = some (.int .i64 0) := (blk_cell BK183.out 0).trans rfl
             have hcz23_1 : w10.cell? ⟨gb183, 1, none⟩ = some (.int .i64 0) := (blk_cell BK183.out 1).trans rfl
             have hcz23_2 : w10.cell? ⟨gb183, 2, none⟩ = some (.int .i64 0) := (blk_cell BK183.out 2).trans rfl
             have hcz23_3 : w10.cell? ⟨gb183, 3, none⟩ = some (.int .i64 0) := (blk_cell BK183.out 3).trans rfl
             have hfz23_0 := blk_frozen BK183.out 0
             have hfz23_1 := blk_frozen BK183.out 1
             have hfz23_2 := blk_frozen BK183.out 2
             have hfz23_3 := blk_frozen BK183.out 3
             go_wp2_with (first | (go_at_call 33; (with_reducible refine (snowplan_amount.calls ((rd_T42 l0 x21_2).f1) false _ A16.out).mono ?_); rintro e w' ⟨rfl, ⟨nd, rfl⟩⟩))
             go_meet
             case rel => exact ⟨_, (true), (by first | rfl | (simp; done) | (simp [*]; done)), H', ⟨by have := HJ2.out; have := HK2.out; first | omega | exact Nat.le_refl _⟩, ⟨by (with_reducible repeat (first | refine blk_drewN ?_ _ | refine blk_drew ?_ | refine blk_alloc ?_ _)); refine blk_put (cs := #[.int .i64 ((rd_T42 l0 x21_2).f0), .int .i64 ((rd_T42 l0 x21_2).f1), .int .i64 ((rd_T42 l0 x21_2).f2), .int .i64 0]) ?_ 3 _ rfl; (with_reducible repeat (first | refine blk_drewN ?_ _ | refine blk_drew ?_ | refine blk_alloc ?_ _)); refine blk_put (cs := #[.int .i64 ((rd_T42 l0 x21_2).f0), .int .i64 ((rd_T42 l0 x21_2).f1), .int .i64 0, .int .i64 0]) ?_ 2 _ rfl; (with_reducible repeat (first | refine blk_drewN ?_ _ | refine blk_drew ?_ | refine blk_alloc ?_ _)); refine blk_put (cs := #[.int .i64 ((rd_T42 l0 x21_2).f0), .int .i64 0, .int .i64 0, .int .i64 0]) ?_ 1 _ rfl; (with_reducible repeat (first | refine blk_drewN ?_ _ | refine blk_drew ?_ | refine blk_alloc ?_ _)); refine blk_put (cs := #[.int .i64 0, .int .i64 0, .int .i64 0, .int .i64 0]) ?_ 0 _ rfl; (with_reducible repeat (first | refine blk_drewN ?_ _ | refine blk_drew ?_ | refine blk_alloc ?_ _)); exact BK183.out⟩, ⟨by (with_reducible repeat (first | refine seen_drewN ?_ _ | refine seen_drew ?_ | refine seen_set ?_ NM.out _)); exact HM.out⟩, ⟨by first | (intro z_; exact absurd z_ (by decide)) | (intro _; have z1_ := of_decide_eq_false c12b0; have z2_ := of_decide_eq_false c14b0; omega)⟩, ⟨by repeat (first | (with_reducible first | exact HB.out | apply below_alloc | apply pw_below_drewN | apply below_drew1 | refine below_set ?_ GE183.out) | exact HB.out)⟩⟩
         case rest =>
          clear HC9
          try clear c1
          try clear p1
          try clear q1
          try clear hx1
          try clear p2
          try clear c4
          try clear c4b0
          try clear c4b1
          try clear c5
          try clear c6
          try clear c7
          try clear c7b0
          try clear c8
          try clear c8b0
          try clear c12
          try clear c12b0
          try clear c14
          try clear c14b0
          try clear c17
          try clear c18
          try clear p18
          try clear q18
          try clear hx18
          try clear c19
          try clear hcz11_0
          try clear hcz11_1
          try clear hcz11_2
          try clear hcz11_3
          try clear hcz13_0
          try clear hcz13_1
          try clear hcz13_2
          try clear hcz13_3
          try clear hcz15_0
          try clear hcz15_1
          try clear hcz15_2
          try clear hcz15_3
          try clear hcz21_0
          try clear hcz21_1
          try clear hcz21_2
          try clear hcz21_3
          try clear hcz22_0
          try clear hcz22_1
          try clear hcz22_2
          try clear hcz22_3
          try clear hcz23_0
          try clear hcz23_1
          try clear hcz23_2
          try clear hcz23_3
          try clear hfz11_0
          try clear hfz11_1
          try clear hfz11_2
          try clear hfz11_3
          try clear hfz13_0
          try clear hfz13_1
          try clear hfz13_2
          try clear hfz13_3
          try clear hfz15_0
          try clear hfz15_1
          try clear hfz15_2
          try clear hfz15_3
          try clear hfz21_0
          try clear hfz21_1
          try clear hfz21_2
          try clear hfz21_3
          try clear hfz22_0
          try clear hfz22_1
          try clear hfz22_2
          try clear hfz22_3
          try clear hfz23_0
          try clear hfz23_1
          try clear hfz23_2
          try clear hfz23_3
          try clear hx182_0
          try clear hx182_1
          try clear hx182_2
          try clear hx182_3
          try clear p182
          try clear p2
          try clear q182
          clear HM
          obtain ⟨kq, x25_8, rfl, HA, HJ8, BK183, HM, HI, HB⟩ := hcut
          cases kq with
          | zero => exact absurd HA.out (by simp [snowplan_Right.j2])
          | succ kj8 =>
           have H := HA.out
           clear HA
           simp only [snowplan_Right.j2] at H
           by_cases c24 : x25_8 = true
           ·subst c24
            have H1 : (some 2) = some r := by rw [if_pos rfl] at H; exact H
            clear H
            have H := H1
            clear H1
            obtain rfl := Option.some.inj H
            go_wp2
            go_ret
            exact ⟨by first | rfl | (simp [errW_none, errW_some] <;> rfl) | (simp [*, errW_none, errW_some] <;> rfl), by repeat (first | (with_reducible first | exact HB.out | apply below_alloc | apply pw_below_drewN | apply below_drew1 | refine below_set ?_ GE183.out) | exact HB.out)⟩
           ·replace c24 := Bool.eq_false_iff.mpr c24
            subst c24
            have H1 : (if seenB x5_2 ((rd_T42 l0 x21_2).f0) = true then (some 7) else (snowplan_Right.l0 kj8 l1 (x5_2 ++ [((rd_T42 l0 x21_2).f0)]) l0 (l0.length : Int) (wrap64 (x21_2 + 1)))) = some r := by rw [if_neg (show ¬ (false = true) by decide)] at H; exact H
            clear H
            have H := H1
            clear H1
            have hin := HI.out rfl
            have hlook := seen_look HM.out hin
            by_cases c25 : seenB x5_2 ((rd_T42 l0 x21_2).f0) = true
            ·rw [if_pos c25] at H
             rw [c25] at hlook
             clear hin
             clear c25
             obtain rfl := Option.some.inj H
             have hcz26_0 : wc.cell? ⟨gb183, 0, none⟩ = some (.int .i64 ((rd_T42 l0 x21_2).f0)) := (blk_cell BK183.out 0).trans rfl
             have hcz26_1 : wc.cell? ⟨gb183, 1, none⟩ = some (.int .i64 ((rd_T42 l0 x21_2).f1)) := (blk_cell BK183.out 1).trans rfl
             have hcz26_2 : wc.cell? ⟨gb183, 2, none⟩ = some (.int .i64 ((rd_T42 l0 x21_2).f2)) := (blk_cell BK183.out 2).trans rfl
             have hcz26_3 : wc.cell? ⟨gb183, 3, none⟩ = some (.int .i64 ((rd_T42 l0 x21_2).f3)) := (blk_cell BK183.out 3).trans rfl
             have hfz26_0 := blk_frozen BK183.out 0
             have hfz26_1 := blk_frozen BK183.out 1
             have hfz26_2 := blk_frozen BK183.out 2
             have hfz26_3 := blk_frozen BK183.out 3
             go_wp2
             go_ret
             exact ⟨by first | rfl | (simp [errW_none, errW_some] <;> rfl) | (simp [*, errW_none, errW_some] <;> rfl), by repeat (first | (with_reducible first | exact HB.out | apply below_alloc | apply pw_below_drewN | apply below_drew1 | refine below_set ?_ GE183.out) | exact HB.out)⟩
            ·rw [if_neg c25] at H
             rw [Bool.eq_false_iff.mpr c25] at hlook
             have hml : x5_2.length < maxLen := by have z1_ := HL.out; have z2_ := (of_decide_eq_true c6b0 : x21_2 < (l0.length : Int)); have z3_ := HR0.out.2.1; unfold maxLen; omega
             obtain ⟨wm, hstore, hm1, hg1⟩ := seen_store HM.out hin hml
             have HM1 := Aside0.mk hm1
             have HG1 := Aside0.mk (HB.out.grown hg1 (below_size HB.out) (fun k_ hk_ => by injection hk_ with hk_; rw [← hk_]; exact GM.out))
             have HL1 := Aside0.mk ((by rw [List.length_append]; have z1_ := HL.out; have z2_ := (of_decide_eq_true c6b0 : x21_2 < (l0.length : Int)); have z3_ := HR0.out.2.1; rw [w64_ (by omega) (by omega)]; simp; omega) : (((x5_2 ++ [((rd_T42 l0 x21_2).f0)]).length : Nat) : Int) = wrap64 (x21_2 + 1))
             clear hm1 hg1 hml hin c25
             have H' := Aside0.mk H
             clear H
             have hcz27_0 : wc.cell? ⟨gb183, 0, none⟩ = some (.int .i64 ((rd_T42 l0 x21_2).f0)) := (blk_cell BK183.out 0).trans rfl
             have hcz27_1 : wc.cell? ⟨gb183, 1, none⟩ = some (.int .i64 ((rd_T42 l0 x21_2).f1)) := (blk_cell BK183.out 1).trans rfl
             have hcz27_2 : wc.cell? ⟨gb183, 2, none⟩ = some (.int .i64 ((rd_T42 l0 x21_2).f2)) := (blk_cell BK183.out 2).trans rfl
             have hcz27_3 : wc.cell? ⟨gb183, 3, none⟩ = some (.int .i64 ((rd_T42 l0 x21_2).f3)) := (blk_cell BK183.out 3).trans rfl
             have hfz27_0 := blk_frozen BK183.out 0
             have hfz27_1 := blk_frozen BK183.out 1
             have hfz27_2 := blk_frozen BK183.out 2
             have hfz27_3 := blk_frozen BK183.out 3
             go_wp2
             go_roundg kj8
             case measure => have := HJ2.out; have := HK2.out; have := HJ8.out; omega
             case rel => exact ⟨(x5_2 ++ [((rd_T42 l0 x21_2).f0)]), (wrap64 (x21_2 + 1)), (by first | rfl | (simp; done) | (simp [*]; done)), H', ⟨by have := HJ2.out; have := HK2.out; have := HJ8.out; omega⟩, ⟨HM1.out⟩, ⟨HL1.out⟩, ⟨HG1.out⟩⟩
        ·rw [if_neg c8] at H
         exact absurd H (by simp)
       ·rw [if_neg c7] at H
        exact absurd H (by simp)
      ·rw [if_neg c6] at H
       have c6b0 : decide (x21_2 < (l0.length : Int)) = false := decide_eq_false c6
       clear c6
       have H' := Aside0.mk H
       clear H
       go_wp2
       go_loopg [63] k2 (fun kq v63 w' => ∃ (x63_3 : Int), v63 = .int .i64 x63_3 ∧ Aside0 (snowplan_Right.l1 kq l1 (l1.length : Int) x63_3 = some r) ∧ Aside0 (kq ≤ k2) ∧ Aside0 (Below w.heap.size w w'))
       case atStart => exact ⟨(0), (by first | rfl | (simp; done) | (simp [*]; done)), H', ⟨Nat.le_refl _⟩, ⟨by repeat (first | (with_reducible first | exact HB.out | apply below_alloc | apply pw_below_drewN | apply below_drew1) | exact HB.out)⟩⟩
       case round =>
        clear H'
        try clear c1
        try clear p1
        try clear q1
        try clear hx1
        try clear c2
        try clear p2
        try clear c4
        try clear c4b0
        try clear c4b1
        try clear c5
        try clear c6
        try clear c6b0
        try clear p6
        try clear c7
        try clear c7b0
        try clear c8
        try clear c8b0
        try clear c12
        try clear c12b0
        try clear c14
        try clear c14b0
        try clear c17
        try clear c18
        try clear p18
        try clear q18
        try clear hx18
        try clear c19
        try clear c24
        try clear c25
        try clear c25b0
        try clear c25b1
        try clear hcz11_0
        try clear hcz11_1
        try clear hcz11_2
        try clear hcz11_3
        try clear hcz13_0
        try clear hcz13_1
        try clear hcz13_2
        try clear hcz13_3
        try clear hcz15_0
        try clear hcz15_1
        try clear hcz15_2
        try clear hcz15_3
        try clear hcz21_0
        try clear hcz21_1
        try clear hcz21_2
        try clear hcz21_3
        try clear hcz22_0
        try clear hcz22_1
        try clear hcz22_2
        try clear hcz22_3
        try clear hcz23_0
        try clear hcz23_1
        try clear hcz23_2
        try clear hcz23_3
        try clear hcz26_0
        try clear hcz26_1
        try clear hcz26_2
        try clear hcz26_3
        try clear hcz27_0
        try clear hcz27_1
        try clear hcz27_2
        try clear hcz27_3
        try clear hfz11_0
        try clear hfz11_1
        try clear hfz11_2
        try clear hfz11_3
        try clear hfz13_0
        try clear hfz13_1
        try clear hfz13_2
        try clear hfz13_3
        try clear hfz15_0
        try clear hfz15_1
        try clear hfz15_2
        try clear hfz15_3
        try clear hfz21_0
        try clear hfz21_1
        try clear hfz21_2
        try clear hfz21_3
        try clear hfz22_0
        try clear hfz22_1
        try clear hfz22_2
        try clear hfz22_3
        try clear hfz23_0
        try clear hfz23_1
        try clear hfz23_2
        try clear hfz23_3
        try clear hfz26_0
        try clear hfz26_1
        try clear hfz26_2
        try clear hfz26_3
        try clear hfz27_0
        try clear hfz27_1
        try clear hfz27_2
        try clear hfz27_3
        try clear hx182_0
        try clear hx182_1
        try clear hx182_2
        try clear hx182_3
        try clear p1
        try clear p18
        try clear p182
        try clear p2
        try clear q1
        try clear q18
        try clear q182
        obtain ⟨x63_3, rfl, HA, HK3, HB⟩ := hrel
        cases gk with
        | zero => exact absurd HA.out (by simp [snowplan_Right.l1])
        | succ k3 =>
         have H := HA.out
         clear HA
         simp only [snowplan_Right.l1] at H
         by_cases c28 : x63_3 < (l1.length : Int)
         ·rw [if_pos c28] at H
          have c28b0 : decide (x63_3 < (l1.length : Int)) = true := decide_eq_true c28
          clear c28
          by_cases c29 : 0 ≤ x63_3
          ·rw [if_pos c29] at H
           have c29b0 : decide (0 ≤ x63_3) = true := decide_eq_true c29
           clear c29
           by_cases c30 : x63_3 < (l1.length : Int)
           ·rw [if_pos c30] at H
            have c30b0 : decide (x63_3 < (l1.length : Int)) = true := decide_eq_true c30
            clear c30
            replace H := Option.bind_eq_some_iff.mp H
            obtain ⟨t189, A310, H⟩ := H
            replace H : (if t189 = true then (if ((rd_T39 l1 x63_3).f1) < 0 then (some 2) else (if ((rd_T39 l1 x63_3).f1) > 1000 then (some 2) else (snowplan_Right.l1 k3 l1 (l1.length : Int) (wrap64 (x63_3 + 1))))) else (some 2)) = some r := H
            have A31 := Aside0.mk A310
            clear A310
            by_cases c32 : t189 = true
            ·subst c32
             have H1 : (if ((rd_T39 l1 x63_3).f1) < 0 then (some 2) else (if ((rd_T39 l1 x63_3).f1) > 1000 then (some 2) else (snowplan_Right.l1 k3 l1 (l1.length : Int) (wrap64 (x63_3 + 1))))) = some r := by rw [if_pos rfl] at H; exact H
             clear H
             have H := H1
             clear H1
             by_cases c33 : ((rd_T39 l1 x63_3).f1) < 0
             ·rw [if_pos c33] at H
              have c33b0 : decide (((rd_T39 l1 x63_3).f1) < 0) = true := decide_eq_true c33
              clear c33
              obtain rfl := Option.some.inj H
              have p187 : 0 ≤ (x63_3 : Int) := of_decide_eq_true (by first | (with_reducible assumption) | assumption)
              have q187 : x63_3 < (l1.length : Int) := of_decide_eq_true (by first | (with_reducible assumption) | assumption)
              obtain ⟨ad187, e187, hx187_0, hx187_1⟩ := at_T39 HR1.out x63_3 p187 q187
              cases e187
              replace hx187_0 := (HB.out.cell (World.block_lt_of_cell? w _ hx187_0)).trans hx187_0
              replace hx187_1 := (HB.out.cell (World.block_lt_of_cell? w _ hx187_1)).trans hx187_1
              replace p187 := eq_true p187
              replace q187 := eq_true q187
              go_wp2_with (first | ((with_reducible refine gate_dst (N := 9) rfl ?_); (try (refine gate_guard (by rfl) ?_; dsimp only)); refine box_event ?hg (N := 9) ?hd (cs := #[.int .i64 0, .int .i64 0]) (t := 39) ?hr ?_; (case hd => rfl); (case hg => rfl); (case hr => first | (go_simp; done) | (go_simp; rfl)); intro gb188 hg w34 hbox hb; have n0_ := Aside0.mk (below_step (by repeat (first | (with_reducible first | exact HB.out | apply below_alloc | apply pw_below_drewN | apply below_drew1) | exact HB.out)) hb); have n1_ := Aside0.mk (hbox); have n2_ := Aside0.mk ((by rw [hg]; exact (below_size (by repeat (first | (with_reducible first | exact HB.out | apply below_alloc | apply pw_below_drewN | apply below_drew1) | exact HB.out))) : w.heap.size ≤ gb188)); have n3_ := Aside0.mk ((by rw [hg]; exact (below_size (by repeat (first | (with_reducible first | exact HB.out | apply below_alloc | apply pw_below_drewN | apply below_drew1) | exact HB.out))) : w.heap.size ≤ gb188)); clear HB; have HB := n0_; have BK188 := n1_; have GW188 := n2_; have GE188 := n3_; clear n0_ n1_ n2_ n3_; clear hb hbox hg; have hcz35_0 : w34.cell? ⟨gb188, 0, none⟩ = some (.int .i64 0) := (blk_cell BK188.out 0).trans rfl; have hcz35_1 : w34.cell? ⟨gb188, 1, none⟩ = some (.int .i64 0) := (blk_cell BK188.out 1).trans rfl; have hfz35_0 := blk_frozen BK188.out 0; have hfz35_1 := blk_frozen BK188.out 1) | ((with_reducible refine gate_callee (f := 33) rfl ?_); refine goesL_ (some 69) rfl rfl Try.func33 (by kernel_rfl) rfl #[.int .i64 ((rd_T39 l1 x63_3).f0)] rfl (by (try simp only [List.map_toArray, List.map_cons, List.map_nil]); first | done | rfl | (simp only [List.length_drop, List.length_take]; rfl)) ?_; (with_reducible refine (snowplan_amount.calls ((rd_T39 l1 x63_3).f0) true _ A31.out).mono ?_); rintro e w' ⟨rfl, ⟨nd, rfl⟩⟩; refine ⟨_, rfl, ?_⟩))
              go_ret
              exact ⟨by first | rfl | (simp [errW_none, errW_some] <;> rfl) | (simp [*, errW_none, errW_some] <;> rfl), by repeat (first | (with_reducible first | exact HB.out | apply below_alloc | apply pw_below_drewN | apply below_drew1 | refine below_set ?_ GE188.out) | exact HB.out)⟩
             ·rw [if_neg c33] at H
              have c33b0 : decide (((rd_T39 l1 x63_3).f1) < 0) = false := decide_eq_false c33
              clear c33
              by_cases c36 : ((rd_T39 l1 x63_3).f1) > 1000
              ·rw [if_pos c36] at H
               have c36b0 : decide (1000 < ((rd_T39 l1 x63_3).f1)) = true := decide_eq_true c36
               clear c36
               obtain rfl := Option.some.inj H
               have p187 : 0 ≤ (x63_3 : Int) := of_decide_eq_true (by first | (with_reducible assumption) | assumption)
               have q187 : x63_3 < (l1.length : Int) := of_decide_eq_true (by first | (with_reducible assumption) | assumption)
               obtain ⟨ad187, e187, hx187_0, hx187_1⟩ := at_T39 HR1.out x63_3 p187 q187
               cases e187
               replace hx187_0 := (HB.out.cell (World.block_lt_of_cell? w _ hx187_0)).trans hx187_0
               replace hx187_1 := (HB.out.cell (World.block_lt_of_cell? w _ hx187_1)).trans hx187_1
               replace p187 := eq_true p187
               replace q187 := eq_true q187
               go_wp2_with (first | ((with_reducible refine gate_dst (N := 9) rfl ?_); (try (refine gate_guard (by rfl) ?_; dsimp only)); refine box_event ?hg (N := 9) ?hd (cs := #[.int .i64 0, .int .i64 0]) (t := 39) ?hr ?_; (case hd => rfl); (case hg => rfl); (case hr => first | (go_simp; done) | (go_simp; rfl)); intro gb188 hg w37 hbox hb; have n0_ := Aside0.mk (below_step (by repeat (first | (with_reducible first | exact HB.out | apply below_alloc | apply pw_below_drewN | apply below_drew1) | exact HB.out)) hb); have n1_ := Aside0.mk (hbox); have n2_ := Aside0.mk ((by rw [hg]; exact (below_size (by repeat (first | (with_reducible first | exact HB.out | apply below_alloc | apply pw_below_drewN | apply below_drew1) | exact HB.out))) : w.heap.size ≤ gb188)); have n3_ := Aside0.mk ((by rw [hg]; exact (below_size (by repeat (first | (with_reducible first | exact HB.out | apply below_alloc | apply pw_below_drewN | apply below_drew1) | exact HB.out))) : w.heap.size ≤ gb188)); clear HB; have HB := n0_; have BK188 := n1_; have GW188 := n2_; have GE188 := n3_; clear n0_ n1_ n2_ n3_; clear hb hbox hg; have hcz38_0 : w37.cell? ⟨gb188, 0, none⟩ = some (.int .i64 0) := (blk_cell BK188.out 0).trans rfl; have hcz38_1 : w37.cell? ⟨gb188, 1, none⟩ = some (.int .i64 0) := (blk_cell BK188.out 1).trans rfl; have hfz38_0 := blk_frozen BK188.out 0; have hfz38_1 := blk_frozen BK188.out 1) | ((with_reducible refine gate_callee (f := 33) rfl ?_); refine goesL_ (some 69) rfl rfl Try.func33 (by kernel_rfl) rfl #[.int .i64 ((rd_T39 l1 x63_3).f0)] rfl (by (try simp only [List.map_toArray, List.map_cons, List.map_nil]); first | done | rfl | (simp only [List.length_drop, List.length_take]; rfl)) ?_; (with_reducible refine (snowplan_amount.calls ((rd_T39 l1 x63_3).f0) true _ A31.out).mono ?_); rintro e w' ⟨rfl, ⟨nd, rfl⟩⟩; refine ⟨_, rfl, ?_⟩))
               go_ret
               exact ⟨by first | rfl | (simp [errW_none, errW_some] <;> rfl) | (simp [*, errW_none, errW_some] <;> rfl), by repeat (first | (with_reducible first | exact HB.out | apply below_alloc | apply pw_below_drewN | apply below_drew1 | refine below_set ?_ GE188.out) | exact HB.out)⟩
              ·rw [if_neg c36] at H
               have c36b0 : decide (1000 < ((rd_T39 l1 x63_3).f1)) = false := decide_eq_false c36
               clear c36
               have H' := Aside0.mk H
               clear H
               have p187 : 0 ≤ (x63_3 : Int) := of_decide_eq_true (by first | (with_reducible assumption) | assumption)
               have q187 : x63_3 < (l1.length : Int) := of_decide_eq_true (by first | (with_reducible assumption) | assumption)
               obtain ⟨ad187, e187, hx187_0, hx187_1⟩ := at_T39 HR1.out x63_3 p187 q187
               cases e187
               replace hx187_0 := (HB.out.cell (World.block_lt_of_cell? w _ hx187_0)).trans hx187_0
               replace hx187_1 := (HB.out.cell (World.block_lt_of_cell? w _ hx187_1)).trans hx187_1
               replace p187 := eq_true p187
               replace q187 := eq_true q187
               go_wp2_with (first | ((with_reducible refine gate_dst (N := 9) rfl ?_); (try (refine gate_guard (by rfl) ?_; dsimp only)); refine box_event ?hg (N := 9) ?hd (cs := #[.int .i64 0, .int .i64 0]) (t := 39) ?hr ?_; (case hd => rfl); (case hg => rfl); (case hr => first | (go_simp; done) | (go_simp; rfl)); intro gb188 hg w39 hbox hb; have n0_ := Aside0.mk (below_step (by repeat (first | (with_reducible first | exact HB.out | apply below_alloc | apply pw_below_drewN | apply below_drew1) | exact HB.out)) hb); have n1_ := Aside0.mk (hbox); have n2_ := Aside0.mk ((by rw [hg]; exact (below_size (by repeat (first | (with_reducible first | exact HB.out | apply below_alloc | apply pw_below_drewN | apply below_drew1) | exact HB.out))) : w.heap.size ≤ gb188)); have n3_ := Aside0.mk ((by rw [hg]; exact (below_size (by repeat (first | (with_reducible first | exact HB.out | apply below_alloc | apply pw_below_drewN | apply below_drew1) | exact HB.out))) : w.heap.size ≤ gb188)); clear HB; have HB := n0_; have BK188 := n1_; have GW188 := n2_; have GE188 := n3_; clear n0_ n1_ n2_ n3_; clear hb hbox hg; have hcz40_0 : w39.cell? ⟨gb188, 0, none⟩ = some (.int .i64 0) := (blk_cell BK188.out 0).trans rfl; have hcz40_1 : w39.cell? ⟨gb188, 1, none⟩ = some (.int .i64 0) := (blk_cell BK188.out 1).trans rfl; have hfz40_0 := blk_frozen BK188.out 0; have hfz40_1 := blk_frozen BK188.out 1) | ((with_reducible refine gate_callee (f := 33) rfl ?_); refine goesL_ (some 69) rfl rfl Try.func33 (by kernel_rfl) rfl #[.int .i64 ((rd_T39 l1 x63_3).f0)] rfl (by (try simp only [List.map_toArray, List.map_cons, List.map_nil]); first | done | rfl | (simp only [List.length_drop, List.length_take]; rfl)) ?_; (with_reducible refine (snowplan_amount.calls ((rd_T39 l1 x63_3).f0) true _ A31.out).mono ?_); rintro e w' ⟨rfl, ⟨nd, rfl⟩⟩; refine ⟨_, rfl, ?_⟩))
               go_roundg k3
               case measure => have := HJ2.out; have := HK2.out; have := HK3.out; omega
               case rel => exact ⟨(wrap64 (x63_3 + 1)), (by first | rfl | (simp; done) | (simp [*]; done)), H', ⟨by have := HJ2.out; have := HK2.out; have := HK3.out; omega⟩, ⟨by repeat (first | (with_reducible first | exact HB.out | apply below_alloc | apply pw_below_drewN | apply below_drew1 | refine below_set ?_ GE188.out) | exact HB.out)⟩⟩
            ·replace c32 := Bool.eq_false_iff.mpr c32
             subst c32
             have H1 : (some 2) = some r := by rw [if_neg (show ¬ (false = true) by decide)] at H; exact H
             clear H
             have H := H1
             clear H1
             obtain rfl := Option.some.inj H
             have p187 : 0 ≤ (x63_3 : Int) := of_decide_eq_true (by first | (with_reducible assumption) | assumption)
             have q187 : x63_3 < (l1.length : Int) := of_decide_eq_true (by first | (with_reducible assumption) | assumption)
             obtain ⟨ad187, e187, hx187_0, hx187_1⟩ := at_T39 HR1.out x63_3 p187 q187
             cases e187
             replace hx187_0 := (HB.out.cell (World.block_lt_of_cell? w _ hx187_0)).trans hx187_0
             replace hx187_1 := (HB.out.cell (World.block_lt_of_cell? w _ hx187_1)).trans hx187_1
             replace p187 := eq_true p187
             replace q187 := eq_true q187
             go_wp2_with (first | ((with_reducible refine gate_dst (N := 9) rfl ?_); (try (refine gate_guard (by rfl) ?_; dsimp only)); refine box_event ?hg (N := 9) ?hd (cs := #[.int .i64 0, .int .i64 0]) (t := 39) ?hr ?_; (case hd => rfl); (case hg => rfl); (case hr => first | (go_simp; done) | (go_simp; rfl)); intro gb188 hg w41 hbox hb; have n0_ := Aside0.mk (below_step (by repeat (first | (with_reducible first | exact HB.out | apply below_alloc | apply pw_below_drewN | apply below_drew1) | exact HB.out)) hb); have n1_ := Aside0.mk (hbox); have n2_ := Aside0.mk ((by rw [hg]; exact (below_size (by repeat (first | (with_reducible first | exact HB.out | apply below_alloc | apply pw_below_drewN | apply below_drew1) | exact HB.out))) : w.heap.size ≤ gb188)); have n3_ := Aside0.mk ((by rw [hg]; exact (below_size (by repeat (first | (with_reducible first | exact HB.out | apply below_alloc | apply pw_below_drewN | apply below_drew1) | exact HB.out))) : w.heap.size ≤ gb188)); clear HB; have HB := n0_; have BK188 := n1_; have GW188 := n2_; have GE188 := n3_; clear n0_ n1_ n2_ n3_; clear hb hbox hg; have hcz42_0 : w41.cell? ⟨gb188, 0, none⟩ = some (.int .i64 0) := (blk_cell BK188.out 0).trans rfl; have hcz42_1 : w41.cell? ⟨gb188, 1, none⟩ = some (.int .i64 0) := (blk_cell BK188.out 1).trans rfl; have hfz42_0 := blk_frozen BK188.out 0; have hfz42_1 := blk_frozen BK188.out 1) | ((with_reducible refine gate_callee (f := 33) rfl ?_); refine goesL_ (some 69) rfl rfl Try.func33 (by kernel_rfl) rfl #[.int .i64 ((rd_T39 l1 x63_3).f0)] rfl (by (try simp only [List.map_toArray, List.map_cons, List.map_nil]); first | done | rfl | (simp only [List.length_drop, List.length_take]; rfl)) ?_; (with_reducible refine (snowplan_amount.calls ((rd_T39 l1 x63_3).f0) false _ A31.out).mono ?_); rintro e w' ⟨rfl, ⟨nd, rfl⟩⟩; refine ⟨_, rfl, ?_⟩))
             go_ret
             exact ⟨by first | rfl | (simp [errW_none, errW_some] <;> rfl) | (simp [*, errW_none, errW_some] <;> rfl), by repeat (first | (with_reducible first | exact HB.out | apply below_alloc | apply pw_below_drewN | apply below_drew1 | refine below_set ?_ GE188.out) | exact HB.out)⟩
           ·rw [if_neg c30] at H
            exact absurd H (by simp)
          ·rw [if_neg c29] at H
           exact absurd H (by simp)
         ·rw [if_neg c28] at H
          have c28b0 : decide (x63_3 < (l1.length : Int)) = false := decide_eq_false c28
          clear c28
          obtain rfl := Option.some.inj H
          go_wp2
          go_ret
          exact ⟨by first | rfl | (simp [errW_none, errW_some] <;> rfl) | (simp [*, errW_none, errW_some] <;> rfl), by repeat (first | (with_reducible first | exact HB.out | apply below_alloc | apply pw_below_drewN | apply below_drew1) | exact HB.out)⟩


end Go.Proofs.Ytefinjjcbpdljaa.PB
