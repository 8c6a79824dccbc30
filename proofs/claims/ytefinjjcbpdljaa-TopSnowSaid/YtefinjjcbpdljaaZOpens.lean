/- What an argument's cells read as, for slices of whole numbers, of slices and of small structs. No conditions beyond those that each theorem states. -/
import Derived.Test.YtefinjjcbpdljaaZWMore
import Derived.Deep.Slices
import Derived.Lib.SmallJoins
import Derived.OpenShut
import Derived.ProofKit
namespace Go.Proofs.Ytefinjjcbpdljaa.Opens
open Go.ChangeShapes Go.WideShapes Go.ChangeAt Go.RowKit Go.Deep Go.Joins
open Go.Proofs.YtefinjjcbpdljaaW.PrintWords
section
variable {H : Type} {enc : TypeId × Value → H} {P : Program} {w : World} {held : Bool}

def Elems {α : Type} (enc : TypeId × Value → H) (P : Program) (w : World) (held : Bool) (d : Kd α) (Q : α → Prop) (e : TypeId) : Prop :=
  ∀ n cs y, cs.length = d.sz → DataW.trod enc P w 0 (fun _ => true) held n e cs = some y → ∃ x, d.K w x cs ∧ Q x

theorem elems_int {e : TypeId} {k : IntKind} (he : P.underlying e = some (.int k)) : Elems enc P w held (Kd.int k) (fun x => (Lit.int k x).wf = true) e := by
  intro n cs y _ h
  obtain ⟨x, rfl, _, hw⟩ := DataW.trod_int he h
  exact ⟨x, rfl, hw⟩

theorem cells_get {base : Nat} {a : Addr} {n : Nat} {cs : List Value} (h : w.cells? base a n = some cs) : cs.length = n ∧ ∀ i u, cs[i]? = some u → w.cell? (a.add i) = some u := by
  obtain ⟨_, hl, hc⟩ := World.cells?_some h
  refine ⟨hl, fun i u hu => ?_⟩
  have hi : i < n := by
    obtain ⟨hi, _⟩ := List.getElem?_eq_some_iff.1 hu
    omega
  rw [hc i hi, hu]

theorem choose_list {α : Type} {n : Nat} {p : Nat → α → Prop} (h : ∀ i, i < n → ∃ x, p i x) : ∃ l : List α, l.length = n ∧ ∀ i x, l[i]? = some x → p i x := by
  induction n with
  | zero => exact ⟨[], rfl, fun i x hx => by simp at hx⟩
  | succ n ih =>
    obtain ⟨l, hl, hp⟩ := ih (fun i hi => h i (by omega))
    obtain ⟨x, hx⟩ := h n (Nat.lt_succ_self n)
    refine ⟨l ++ [x], by simp [hl], fun i y hy => ?_⟩
    by_cases hi : i < l.length
    · rw [List.getElem?_append_left hi] at hy; exact hp i y hy
    · rw [List.getElem?_append_right (by omega)] at hy
      have hz : i - l.length = 0 := by
        obtain ⟨hz, _⟩ := List.getElem?_eq_some_iff.1 hy
        simp at hz; omega
      rw [hz] at hy
      simp at hy
      subst hy
      have : i = n := by omega
      subst this; exact hx

theorem open_C' {α : Type} {d : Kd α} {Q : α → Prop} {t e : TypeId} {fuel : Nat} {cs : List Value} {x : DataW H × List MemPlace} (ht : P.underlying t = some (.slice e)) (hc : P.cellsOf e = d.sz) (hd : Elems enc P w held d Q e)
    (h : DataW.trod enc P w 0 (fun _ => true) held fuel t cs = some x) :
    ∃ A l c, cs = [.slice A l.length c] ∧ l.length ≤ c ∧ d.C w A l.length l ∧ ∀ x ∈ l, Q x := by
  rcases open_slice ht h with ⟨rfl, _⟩ | ⟨a, len, cap, m, n, D, Pl, rfl, _, hl, hm, hmm, _, hx⟩
  · exact ⟨none, [], 0, rfl, Nat.le_refl _, ⟨rfl, by simp, fun hz => absurd hz (Nat.lt_irrefl 0)⟩, fun x hx => by simp at hx⟩
  · simp only [if_true] at hmm
    subst hmm
    obtain ⟨l, hl2, hp⟩ := choose_list (n := len) (p := fun i x => ∃ c, c.length = d.sz ∧ d.K w x c ∧ Q x ∧ ∀ j u, c[j]? = some u → w.cell? (a.add (i * d.sz + j)) = some u) (fun i hi => by
      obtain ⟨cs', h1, h2⟩ := hx i (by omega)
      rw [hc] at h1
      obtain ⟨c1, c2⟩ := cells_get h1
      obtain ⟨x, k1, k2⟩ := hd _ _ _ c1 h2
      exact ⟨x, cs', c1, k1, k2, fun j u hu => by rw [← Deep.add_add]; exact c2 j u hu⟩)
    subst hl2
    refine ⟨some a, l, m, rfl, hl, ⟨rfl, ?_, fun _ => ⟨a, rfl, fun j p hj => ?_⟩⟩, fun x hx => ?_⟩
    · unfold maxLen at hm; omega
    · obtain ⟨c, k1, k2, _, k4⟩ := hp j p hj
      exact ⟨c, k1, k2, k4⟩
    · obtain ⟨i, hi, rfl⟩ := List.mem_iff_getElem.1 hx
      obtain ⟨c, _, _, k3, _⟩ := hp i _ (List.getElem?_eq_getElem hi)
      exact k3

theorem elems_slice {α : Type} {d : Kd α} {Q : α → Prop} {t e : TypeId} (tid : Nat) (ht : P.underlying t = some (.slice e)) (hc : P.cellsOf e = d.sz) (hd : Elems enc P w held d Q e) :
    Elems enc P w held (Kd.slice tid d) (fun l => ∀ x ∈ l, Q x) t := by
  intro n cs y _ h
  obtain ⟨A, l, c, rfl, h1, h2, h3⟩ := open_C' ht hc hd h
  exact ⟨l, ⟨A, c, rfl, h1, h2⟩, h3⟩

theorem open_C {α : Type} {d : Kd α} {Q : α → Prop} {t e : TypeId} {A : Option Addr} {len cap : Nat} {D : DataW H} {ps : List MemPlace} (ht : P.underlying t = some (.slice e)) (hc : P.cellsOf e = d.sz) (hd : Elems enc P w held d Q e)
    (h : DataW.Trod enc P w 0 (fun _ => true) held t (.slice A len cap) D ps) : ∃ l, len = l.length ∧ l.length ≤ cap ∧ d.C w A l.length l ∧ ∀ x ∈ l, Q x := by
  obtain ⟨fuel, hf⟩ := h
  obtain ⟨A', l, c, e1, h1, h2, h3⟩ := open_C' ht hc hd hf
  simp [Value.cells] at e1
  obtain ⟨rfl, rfl, rfl⟩ := e1
  exact ⟨l, rfl, h1, h2, h3⟩

theorem sized_any {t e : TypeId} {a : Option Addr} {len cap : Nat} {d : DataW H} {ps : List MemPlace} {ts : List TypeId} {ds : List (DataW H)} {j : Nat}
    (hsz : (DataW.weightsEach P ts ds).all (· ≤ reachBytes) = true) (ht : ts[j]? = some t) (hd : ds[j]? = some d) (hu : P.underlying t = some (.slice e)) {B : Nat} (hB : P.bytesOf e = B)
    (h : DataW.Trod enc P w 0 (fun _ => true) held t (.slice a len cap) d ps) : len * B ≤ 140737488351232 := by
  obtain ⟨fuel, hf⟩ := h
  rcases open_slice hu hf with ⟨hcs, _⟩ | ⟨x, l, c, m, n, D, Pl, hcs, _, hl, _, hmm, hx, _⟩
  · simp [Value.cells] at hcs
    obtain ⟨rfl, rfl, rfl⟩ := hcs
    simp
  · simp [Value.cells] at hcs
    obtain ⟨rfl, rfl, rfl⟩ := hcs
    simp only [if_true] at hmm
    subst hmm
    obtain ⟨hx, _⟩ := Prod.mk.inj hx
    subst hx
    have z := sized_slice hsz ht hd hu
    rw [hB] at z
    simp only [List.length_map, List.length_range] at z
    have z2 : (len + (m - len)) * B ≤ reachBytes := z
    have : len * B ≤ (len + (m - len)) * B := Nat.mul_le_mul_right B (by omega)
    unfold reachBytes at z2
    omega
end
end Go.Proofs.Ytefinjjcbpdljaa.Opens
