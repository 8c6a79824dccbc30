-- Written by a program of this session (wip/top/gen.py). Not trusted: Lean checks it.
import Derived.Test.YtefinjjcbpdljaaZPPxD
import Derived.LoopN
import Derived.Lib.LazyBuf
namespace Go.Proofs.Ytefinjjcbpdljaa.PB
open Go.RowKit Go.Proofs.YtefinjjcbpdljaaW.PrintWords Go.Proofs.YtefinjjcbpdljaaW.PrintLast Go.Proofs.YtefinjjcbpdljaaW.PrintMore
attribute [local go_sem] max2_int min2_int max_two min_two max_three min_three max_four min_four   -- for this text's walks alone
set_option linter.unusedVariables false
set_option linter.unusedSimpArgs false

section
variable {P : Program} {ops : Array Oper} {Q : Exit → Act → World → Prop} {md : Region.Mode} {S : World → Prop} {ds : List Nat}
theorem pu_ {oi : Oper} {v : Value} {fuel : Nat} {l : Array Bool} {a : Act} {w : World} (i : Nat) (N : Option Tmp) (hi : ops[i]? = some oi) (hN : oi.dst = N) (hc : anyB md ops l (l.setIfInBounds i true) i = true)
    (hQ : ∀ c a w, Q (.panic c) (a.put oi.dst v) w → Q (.panic c) a w) (hy : Yields P ops oi v a) {a' : Act} (ha : a.put N v = a')
    (h : wpAnyLast P md ops Q S ds fuel (l.setIfInBounds i true) a' w) : wpAnyLast P md ops Q S ds (fuel + 1) l a w := pure_ _ hi hN hc hQ hy ha h
theorem tk_ {oi : Oper} {v : Value} {fuel : Nat} {l : Array Bool} {a : Act} {w : World} (i : Nat) (N : Option Tmp) (hi : ops[i]? = some oi) (hN : oi.dst = N) (hc : takeB md ops ds l (l.setIfInBounds i true) i = true)
    (hQ : ∀ c a w, Q (.panic c) (a.put oi.dst v) w → Q (.panic c) a w) (hS : S w) (hy : YieldsIf P ops S oi v a) {a' : Act} (ha : a.put N v = a')
    (h : wpAnyLast P md ops Q S ds fuel (l.setIfInBounds i true) a' w) : wpAnyLast P md ops Q S ds (fuel + 1) l a w := take_ _ hi hN hc hQ hy hS ha h
end
theorem zA {α : Type} (l : List α) (i : Nat) (a : α) : l.toArray.setIfInBounds i a = (l.set i a).toArray := List.setIfInBounds_toArray ..
theorem zB {α : Type} (x a : α) (l : List α) : (x :: l).set 0 a = a :: l := List.set_cons_zero
theorem zC {α : Type} (x a : α) (l : List α) (i : Nat) : (x :: l).set (i + 1) a = x :: l.set i a := List.set_cons_succ
def Keeps (g gf gp : Nat) (w w' : World) : Prop := ∀ k cs t, w.heap[k]? = some (.cells cs t (0, 0)) → k ≠ g → k ≠ gf → k ≠ gp → w'.heap[k]? = some (.cells cs t (0, 0))
theorem Keeps.refl (g gf gp : Nat) (w : World) : Keeps g gf gp w w := fun _ _ _ h _ _ _ => h
theorem Keeps.trans {g gf gp : Nat} {w W W2 : World} (h : Keeps g gf gp w W) (h2 : Keeps g gf gp W W2) : Keeps g gf gp w W2 := fun k cs t hk a b c => h2 k cs t (h k cs t hk a b c) a b c
theorem Keeps.alloc {g gf gp : Nat} {w W : World} (h : Keeps g gf gp w W) (o : Obj) : Keeps g gf gp w (W.alloc o) := fun k cs t hk a b c => blk_alloc (h k cs t hk a b c) o
theorem Keeps.below {g gf gp : Nat} {w W W2 : World} (h : Keeps g gf gp w W) (hb : Below W.heap.size W W2) : Keeps g gf gp w W2 := fun k cs t hk a b c => blk_below (h k cs t hk a b c) hb
theorem Keeps.drew {g gf gp : Nat} {w W : World} (h : Keeps g gf gp w W) : Keeps g gf gp w W.drew := h
theorem Keeps.setg {g gf gp : Nat} {w W : World} (h : Keeps g gf gp w W) (j : Nat) (v : Value) : Keeps g gf gp w (W.setCell ⟨g, j, none⟩ v) := fun k cs t hk a b c => blk_far (p := ⟨g, j, none⟩) (h k cs t hk a b c) a v
theorem Keeps.setf {g gf gp : Nat} {w W : World} (h : Keeps g gf gp w W) (j : Nat) (v : Value) : Keeps g gf gp w (W.setCell ⟨gf, j, none⟩ v) := fun k cs t hk a b c => blk_far (p := ⟨gf, j, none⟩) (h k cs t hk a b c) b v
theorem Keeps.setp {g gf gp : Nat} {w W : World} (h : Keeps g gf gp w W) (j : Nat) (v : Value) : Keeps g gf gp w (W.setCell ⟨gp, j, none⟩ v) := fun k cs t hk a b c => blk_far (p := ⟨gp, j, none⟩) (h k cs t hk a b c) c v
theorem dh_ (w : World) : w.heap = w.drew.heap := rfl
theorem cl2 {w : World} {x t : Nat} {a b : Value} (k : w.heap[x]? = some (.cells #[a, b] t (0, 0))) : w.cell? ⟨x, 0, none⟩ = some a ∧ w.cell? ⟨x, 1, none⟩ = some b :=
  ⟨(blk_cell k 0).trans rfl, (blk_cell k 1).trans rfl⟩
theorem cl3 {w : World} {x t : Nat} {a b c : Value} (k : w.heap[x]? = some (.cells #[a, b, c] t (0, 0))) : w.cell? ⟨x, 0, none⟩ = some a ∧ w.cell? ⟨x, 1, none⟩ = some b ∧ w.cell? ⟨x, 2, none⟩ = some c :=
  ⟨(blk_cell k 0).trans rfl, (blk_cell k 1).trans rfl, (blk_cell k 2).trans rfl⟩
theorem cl4 {w : World} {x t : Nat} {a b c d : Value} (k : w.heap[x]? = some (.cells #[a, b, c, d] t (0, 0))) : w.cell? ⟨x, 0, none⟩ = some a ∧ w.cell? ⟨x, 1, none⟩ = some b ∧ w.cell? ⟨x, 2, none⟩ = some c ∧ w.cell? ⟨x, 3, none⟩ = some d :=
  ⟨(blk_cell k 0).trans rfl, (blk_cell k 1).trans rfl, (blk_cell k 2).trans rfl, (blk_cell k 3).trans rfl⟩
theorem cl6 {w : World} {x t : Nat} {a b c d e f : Value} (k : w.heap[x]? = some (.cells #[a, b, c, d, e, f] t (0, 0))) : w.cell? ⟨x, 0, none⟩ = some a ∧ w.cell? ⟨x, 1, none⟩ = some b ∧ w.cell? ⟨x, 2, none⟩ = some c ∧ w.cell? ⟨x, 3, none⟩ = some d ∧ w.cell? ⟨x, 4, none⟩ = some e ∧ w.cell? ⟨x, 5, none⟩ = some f :=
  ⟨(blk_cell k 0).trans rfl, (blk_cell k 1).trans rfl, (blk_cell k 2).trans rfl, (blk_cell k 3).trans rfl, (blk_cell k 4).trans rfl, (blk_cell k 5).trans rfl⟩
theorem cl8 {w : World} {x t : Nat} {a b c d e f g h : Value} (k : w.heap[x]? = some (.cells #[a, b, c, d, e, f, g, h] t (0, 0))) : w.cell? ⟨x, 0, none⟩ = some a ∧ w.cell? ⟨x, 1, none⟩ = some b ∧ w.cell? ⟨x, 2, none⟩ = some c ∧ w.cell? ⟨x, 3, none⟩ = some d ∧ w.cell? ⟨x, 4, none⟩ = some e ∧ w.cell? ⟨x, 5, none⟩ = some f ∧ w.cell? ⟨x, 6, none⟩ = some g ∧ w.cell? ⟨x, 7, none⟩ = some h :=
  ⟨(blk_cell k 0).trans rfl, (blk_cell k 1).trans rfl, (blk_cell k 2).trans rfl, (blk_cell k 3).trans rfl, (blk_cell k 4).trans rfl, (blk_cell k 5).trans rfl, (blk_cell k 6).trans rfl, (blk_cell k 7).trans rfl⟩
theorem fz5 {N W : World} {p q i1 i2 i3 i4 j : Nat} {a b c d e : Value} (hN : N = ((((W.setCell ⟨p, i1, none⟩ a).setCell ⟨p, i2, none⟩ b).setCell ⟨p, i3, none⟩ c).setCell ⟨p, i4, none⟩ d).setCell ⟨q, j, none⟩ e) {x t : Nat} {cs : Array Value} (h : W.heap[x]? = some (.cells cs t (0, 0))) (m : x ≠ p) (n : x ≠ q) : N.heap[x]? = some (.cells cs t (0, 0)) := by
  subst hN
  exact blk_far (p := ⟨q, j, none⟩) (blk_far (p := ⟨p, i4, none⟩) (blk_far (p := ⟨p, i3, none⟩) (blk_far (p := ⟨p, i2, none⟩) (blk_far (p := ⟨p, i1, none⟩) h m a) m b) m c) m d) n e
theorem bz5 {N W : World} {p q i1 i2 i3 i4 j : Nat} {a b c d e : Value} (hN : N = ((((W.setCell ⟨p, i1, none⟩ a).setCell ⟨p, i2, none⟩ b).setCell ⟨p, i3, none⟩ c).setCell ⟨p, i4, none⟩ d).setCell ⟨q, j, none⟩ e) {w0 : World} (h : Below w0.heap.size w0 W) (m : w0.heap.size ≤ p) (n : w0.heap.size ≤ q) : Below w0.heap.size w0 N := by
  subst hN
  exact below_set (below_set (below_set (below_set (below_set h m) m) m) m) n
theorem kz5 {N W : World} {p q i1 i2 i3 i4 j : Nat} {a b c d e : Value} (hN : N = ((((W.setCell ⟨p, i1, none⟩ a).setCell ⟨p, i2, none⟩ b).setCell ⟨p, i3, none⟩ c).setCell ⟨p, i4, none⟩ d).setCell ⟨q, j, none⟩ e) {g : Nat} {w : World} (h : Keeps g q p w W) : Keeps g q p w N := by
  subst hN
  exact ((((h.setp i1 a).setp i2 b).setp i3 c).setp i4 d).setf j e
theorem pz5 {N W : World} {p q i1 i2 i3 i4 j : Nat} {a b c d e : Value} (hN : N = ((((W.setCell ⟨p, i1, none⟩ a).setCell ⟨p, i2, none⟩ b).setCell ⟨p, i3, none⟩ c).setCell ⟨p, i4, none⟩ d).setCell ⟨q, j, none⟩ e) {t : Nat} {cs cs1 cs2 cs3 cs4 : Array Value} (h : W.heap[p]? = some (.cells cs t (0, 0))) (m : p ≠ q) (e1 : cs.set! i1 a = cs1) (e2 : cs1.set! i2 b = cs2) (e3 : cs2.set! i3 c = cs3) (e4 : cs3.set! i4 d = cs4) : N.heap[p]? = some (.cells cs4 t (0, 0)) := by
  subst hN
  exact blk_far (p := ⟨q, j, none⟩) (blk_put (blk_put (blk_put (blk_put h i1 a e1) i2 b e2) i3 c e3) i4 d e4) m e
theorem qz5 {N W : World} {p q i1 i2 i3 i4 j : Nat} {a b c d e : Value} (hN : N = ((((W.setCell ⟨p, i1, none⟩ a).setCell ⟨p, i2, none⟩ b).setCell ⟨p, i3, none⟩ c).setCell ⟨p, i4, none⟩ d).setCell ⟨q, j, none⟩ e) {t : Nat} {cs cs1 : Array Value} (h : W.heap[q]? = some (.cells cs t (0, 0))) (m : q ≠ p) (e1 : cs.set! j e = cs1) : N.heap[q]? = some (.cells cs1 t (0, 0)) := by
  subst hN
  exact blk_put (blk_far (p := ⟨p, i4, none⟩) (blk_far (p := ⟨p, i3, none⟩) (blk_far (p := ⟨p, i2, none⟩) (blk_far (p := ⟨p, i1, none⟩) h m a) m b) m c) m d) j e e1
theorem al_ {N W : World} {o : Obj} (hN : N = W.alloc o) {x t : Nat} {cs : Array Value} (h : W.heap[x]? = some (.cells cs t (0, 0))) : N.heap[x]? = some (.cells cs t (0, 0)) := hN ▸ blk_alloc h o
theorem an_ {N W : World} {o : Obj} (hN : N = W.alloc o) : N.heap[W.heap.size]? = some o := hN ▸ blk_new W o
theorem ab_ {N W w0 : World} {o : Obj} (hN : N = W.alloc o) (h : Below w0.heap.size w0 W) : Below w0.heap.size w0 N := hN ▸ below_alloc h o
theorem ak_ {N W w : World} {g f p : Nat} {o : Obj} (hN : N = W.alloc o) (h : Keeps g f p w W) : Keeps g f p w N := hN ▸ h.alloc o
theorem sc6 {w : World} {x t : Nat} {cs : Array Value} {a b c d e f : Value} (k : w.heap[x]? = some (.cells cs t (0, 0))) (k0 : cs[0]? = some a) (k1 : cs[1]? = some b) (k2 : cs[2]? = some c) (k3 : cs[3]? = some d) (k4 : cs[4]? = some e) (k5 : cs[5]? = some f) : w.cell? ⟨x, 0, none⟩ = some a ∧ w.cell? ⟨x, 1, none⟩ = some b ∧ w.cell? ⟨x, 2, none⟩ = some c ∧ w.cell? ⟨x, 3, none⟩ = some d ∧ w.cell? ⟨x, 4, none⟩ = some e ∧ w.cell? ⟨x, 5, none⟩ = some f :=
  ⟨(blk_cell k 0).trans k0, (blk_cell k 1).trans k1, (blk_cell k 2).trans k2, (blk_cell k 3).trans k3, (blk_cell k 4).trans k4, (blk_cell k 5).trans k5⟩
end Go.Proofs.Ytefinjjcbpdljaa.PB
