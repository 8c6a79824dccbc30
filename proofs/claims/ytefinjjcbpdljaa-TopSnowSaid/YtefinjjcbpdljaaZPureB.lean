/- The plain laws of chapter 43: what the printed functions compute, over whole numbers and lists alone. No conditions beyond those that each theorem states. -/
import Derived.Test.YtefinjjcbpdljaaZPPxD
namespace Go.Proofs.Ytefinjjcbpdljaa.PB
open Go.RowKit Go.Proofs.YtefinjjcbpdljaaW.PrintWords Go.Proofs.YtefinjjcbpdljaaW.PrintLast Go.Proofs.YtefinjjcbpdljaaW.PrintMore
set_option linter.unusedVariables false
set_option linter.unusedSimpArgs false
theorem w64 {x : Int} (h0 : -9223372036854775808 ≤ x) (h1 : x ≤ 9223372036854775807) : wrap64 x = x := by
  unfold wrap64; omega
theorem w64s (i n : Nat) (h : i < n) (hn : n ≤ 1000000000000) : wrap64 ((i : Int) + 1) = ((i + 1 : Nat) : Int) := by
  rw [w64 (by omega) (by omega)]; omega
theorem i64w (n : Int) (h0 : 0 ≤ n) (h1 : n < 2 ^ 62) : IntKind.i64.wrap n = n := by
  rw [IntKind.wrap_i64]; omega
theorem and_nat (a b : Nat) (ha : a < 2 ^ 62) (hb : b < 2 ^ 62) : Go.bits .and .i64 (a : Int) (b : Int) = ((a &&& b : Nat) : Int) := (bits_nat .i64 62 (by decide) i64w a b ha hb).1
theorem one_shl : ∀ c : Fin 21, shl .i64 1 ((c.1 : Nat) : Int) = ((1 <<< c.1 : Nat) : Int) := by decide +kernel
theorem shl_w {c : Nat} (hc : c ≤ 20) : shl .i64 1 (c : Int) = ((2 ^ c : Nat) : Int) := by
  have := one_shl ⟨c, by omega⟩
  rw [Nat.one_shiftLeft] at this; exact this
theorem shr_nat (u : Nat) {c : Nat} (hc : c ≤ 20) : shr .i64 (u : Int) (c : Int) = ((u >>> c : Nat) : Int) := by
  unfold shr
  have e : min ((c : Int)).toNat IntKind.i64.bits = c := by simp [IntKind.bits]; omega
  rw [e, Nat.shiftRight_eq_div_pow]
  push_cast
  rfl
theorem bit_small : ∀ u : Fin 256, ∀ c : Fin 9, ((u.1 >>> c.1) &&& 1) = if u.1.testBit c.1 then 1 else 0 := by decide +kernel
theorem ask {u c : Nat} (hu : u < 256) (hc : c ≤ 8) : Go.bits .and .i64 (shr .i64 (u : Int) (c : Int)) 1 = if u.testBit c then 1 else 0 := by
  have hlt : u >>> c < 2 ^ 62 := Nat.lt_of_le_of_lt (Nat.shiftRight_le u c) (by omega)
  rw [shr_nat u (by omega)]
  have e : Go.bits .and .i64 ((u >>> c : Nat) : Int) ((1 : Nat) : Int) = (((u >>> c) &&& 1 : Nat) : Int) := and_nat (u >>> c) 1 hlt (by decide)
  have b := bit_small ⟨u, hu⟩ ⟨c, by omega⟩
  simp only at b
  rw [show (1 : Int) = ((1 : Nat) : Int) from rfl, e, b]
  split <;> rfl
theorem rd_nat (xs : List Int) (i : Nat) : rd xs (i : Int) = xs.getD i 0 := by simp [rd]
theorem rdL_nat (xs : List (List Int)) (i : Nat) : rd_L3 xs (i : Int) = xs.getD i [] := by simp [rd_L3]
theorem rdG_nat (xs : List S42) (i : Nat) : rd_T42 xs (i : Int) = xs.getD i z42 := by simp [rd_T42]
theorem rdH_nat (xs : List S39) (i : Nat) : rd_T39 xs (i : Int) = xs.getD i z39 := by simp [rd_T39]
theorem getD_mem {α : Type} (xs : List α) (z : α) (i : Nat) (h : i < xs.length) : xs.getD i z ∈ xs := by
  rw [List.getD_eq_getElem?_getD, List.getElem?_eq_getElem h]; exact List.getElem_mem h
theorem getD_drop {α : Type} (xs : List α) (z : α) (i : Nat) (h : i < xs.length) : xs.drop i = xs.getD i z :: xs.drop (i + 1) := by
  rw [List.drop_eq_getElem_cons h, List.getD_eq_getElem?_getD, List.getElem?_eq_getElem h]; rfl

def badG (g : S42) : Bool := decide (g.f0 < 1 ∨ g.f0 > 9999 ∨ g.f1 < 0 ∨ g.f1 > 1000000000 ∨ g.f2 < 0 ∨ g.f2 > 1000000000 ∨ g.f3 < 0 ∨ g.f3 > 1000000000)
def badH (h : S39) : Bool := decide (h.f0 < 0 ∨ h.f0 > 1000000000 ∨ h.f1 < 0 ∨ h.f1 > 1000)
def hoursS : List S39 → Int
  | [] => 0
  | h :: hs => if badH h = true then 2 else hoursS hs
def gunsS : List S42 → List Int → Int → Int
  | [], _, r => r
  | g :: gs, seen, r => if badG g = true then 2 else if seenB seen g.f0 = true then 7 else gunsS gs (seen ++ [g.f0]) r
def rightS (g : List S42) (h : List S39) : Int := if g.length > 5 ∨ h.length > 3 then 4 else gunsS g [] (hoursS h)

theorem ref_hours_loop (hs : List S39) (hn : hs.length ≤ 1000) : ∀ d i, i + d = hs.length → Ev (fun k => skiarearef43_Right.l2 k hs (i : Int)) (hoursS (hs.drop i)) := by
  intro d
  induction d with
  | zero =>
    intro i hi
    rw [List.drop_of_length_le (by omega)]
    exact Ev.step (f := fun _ => some 0) (fun k => by simp only [skiarearef43_Right.l2]; rw [if_neg (by omega)]) (Ev.now 0)
  | succ d ih =>
    intro i hi
    have hlt : i < hs.length := by omega
    have h := ih (i + 1) (by omega)
    rw [getD_drop hs z39 i hlt]
    simp only [hoursS]
    generalize hx : hs.getD i z39 = x at *
    have st : ∀ k, skiarearef43_Right.l2 (k + 1) hs (i : Int) = if badH x = true then some 2 else skiarearef43_Right.l2 k hs ((i + 1 : Nat) : Int) := by
      intro k
      simp only [skiarearef43_Right.l2]
      rw [if_pos (by omega), if_pos (by omega), rdH_nat, hx, w64s i hs.length hlt (by omega)]
      unfold badH
      by_cases q1 : x.f0 < 0
      · rw [if_pos q1, if_pos (by simp only [decide_eq_true_eq]; omega)]
      rw [if_neg q1]
      by_cases q2 : x.f0 > 1000000000
      · rw [if_pos q2, if_pos (by simp only [decide_eq_true_eq]; omega)]
      rw [if_neg q2]
      by_cases q3 : x.f1 < 0
      · rw [if_pos q3, if_pos (by simp only [decide_eq_true_eq]; omega)]
      rw [if_neg q3]
      by_cases q4 : x.f1 > 1000
      · rw [if_pos q4, if_pos (by simp only [decide_eq_true_eq]; omega)]
      rw [if_neg q4, if_neg (by simp only [decide_eq_true_eq]; omega)]
    by_cases q : badH x = true
    · rw [if_pos q]; exact Ev.step (f := fun _ => some 2) (fun k => by rw [st, if_pos q]) (Ev.now 2)
    · rw [if_neg q]; exact Ev.step (f := fun k => skiarearef43_Right.l2 k hs ((i + 1 : Nat) : Int)) (fun k => by rw [st, if_neg q]) h

def ids (gs : List S42) (i : Nat) : List Int := (gs.take i).map fun g => g.f0
theorem ids_succ (gs : List S42) (i : Nat) (h : i < gs.length) : ids gs (i + 1) = ids gs i ++ [(gs.getD i z42).f0] := by
  unfold ids
  rw [List.take_succ_eq_append_getElem h, List.map_append, List.getD_eq_getElem?_getD, List.getElem?_eq_getElem h]; rfl

theorem ref_twice (gs : List S42) (hs : List S39) (hn : gs.length ≤ 1000) (i : Nat) (hi : i < gs.length) (x : S42) {r : Int} (hr : Ev (fun k => skiarearef43_Right.l0 k gs hs ((i + 1 : Nat) : Int)) r) :
    ∀ d m, m + d = i → Ev (fun k => skiarearef43_Right.l1 k gs hs (i : Int) (m : Int) x.f0 x.f1 x.f2 x.f3) (if seenB ((ids gs i).drop m) x.f0 = true then 7 else r) := by
  intro d
  have hl : (ids gs i).length = i := by unfold ids; rw [List.length_map, List.length_take]; omega
  induction d with
  | zero =>
    intro m hm
    rw [List.drop_of_length_le (by omega)]
    exact Ev.step (f := fun k => skiarearef43_Right.l0 k gs hs ((i + 1 : Nat) : Int)) (fun k => by simp only [skiarearef43_Right.l1]; rw [if_neg (by omega), w64s i gs.length hi (by omega)]) hr
  | succ d ih =>
    intro m hm
    have h := ih (m + 1) (by omega)
    have hml : m < gs.length := by omega
    have e : (ids gs i).getD m 0 = (gs.getD m z42).f0 := by
      unfold ids
      rw [List.getD_eq_getElem?_getD, List.getElem?_map, List.getElem?_take, if_pos (by omega), List.getD_eq_getElem?_getD, List.getElem?_eq_getElem hml]; rfl
    rw [getD_drop (ids gs i) 0 m (by omega), e]
    have st : ∀ k, skiarearef43_Right.l1 (k + 1) gs hs (i : Int) (m : Int) x.f0 x.f1 x.f2 x.f3 = if (gs.getD m z42).f0 = x.f0 then some 7 else skiarearef43_Right.l1 k gs hs (i : Int) ((m + 1 : Nat) : Int) x.f0 x.f1 x.f2 x.f3 := by
      intro k
      simp only [skiarearef43_Right.l1]
      rw [if_pos (by omega), if_pos (by omega), if_pos (by omega), rdG_nat, w64s m gs.length hml (by omega)]
    by_cases q : (gs.getD m z42).f0 = x.f0
    · have e2 : seenB ((gs.getD m z42).f0 :: (ids gs i).drop (m + 1)) x.f0 = true := by simp only [seenB, List.any_cons]; rw [beq_iff_eq.2 q]; rfl
      rw [if_pos e2]
      exact Ev.step (f := fun _ => some 7) (fun k => by rw [st, if_pos q]) (Ev.now 7)
    · have e2 : seenB ((gs.getD m z42).f0 :: (ids gs i).drop (m + 1)) x.f0 = seenB ((ids gs i).drop (m + 1)) x.f0 := by simp only [seenB, List.any_cons]; rw [beq_eq_false_iff_ne.2 q, Bool.false_or]
      rw [e2]
      exact Ev.step (f := fun k => skiarearef43_Right.l1 k gs hs (i : Int) ((m + 1 : Nat) : Int) x.f0 x.f1 x.f2 x.f3) (fun k => by rw [st, if_neg q]) h

theorem ref_guns_loop (gs : List S42) (hs : List S39) (hn : gs.length ≤ 1000) (hm : hs.length ≤ 1000) : ∀ d i, i + d = gs.length → Ev (fun k => skiarearef43_Right.l0 k gs hs (i : Int)) (gunsS (gs.drop i) (ids gs i) (hoursS hs)) := by
  intro d
  induction d with
  | zero =>
    intro i hi
    rw [List.drop_of_length_le (by omega)]
    have h := ref_hours_loop hs hm hs.length 0 (by omega)
    rw [List.drop_zero] at h
    exact Ev.step (f := fun k => skiarearef43_Right.l2 k hs ((0 : Nat) : Int)) (fun k => by simp only [skiarearef43_Right.l0]; rw [if_neg (by omega)]; rfl) h
  | succ d ih =>
    intro i hi
    have hlt : i < gs.length := by omega
    have h := ih (i + 1) (by omega)
    rw [ids_succ gs i hlt] at h
    rw [getD_drop gs z42 i hlt]
    simp only [gunsS]
    generalize hx : gs.getD i z42 = x at *
    have st : ∀ k, skiarearef43_Right.l0 (k + 1) gs hs (i : Int) = skiarearef43_Right.j2 k gs hs (i : Int) (badG x) x.f0 x.f1 x.f2 x.f3 := by
      intro k
      simp only [skiarearef43_Right.l0]
      rw [if_pos (by omega), if_pos (by omega), rdG_nat, hx]
      have bt : (x.f0 < 1 ∨ x.f0 > 9999 ∨ x.f1 < 0 ∨ x.f1 > 1000000000 ∨ x.f2 < 0 ∨ x.f2 > 1000000000 ∨ x.f3 < 0 ∨ x.f3 > 1000000000) → badG x = true := fun hi => by unfold badG; simp only [decide_eq_true_eq]; exact hi
      by_cases q1 : x.f0 < 1
      · rw [if_pos q1, bt (by omega)]
      rw [if_neg q1]
      by_cases q2 : x.f0 > 9999
      · rw [if_pos q2, bt (by omega)]
      rw [if_neg q2]
      by_cases q3 : x.f1 < 0
      · rw [if_pos q3, bt (by omega)]
      rw [if_neg q3]
      by_cases q4 : x.f1 > 1000000000
      · rw [if_pos q4, bt (by omega)]
      rw [if_neg q4]
      by_cases q5 : x.f2 < 0
      · rw [if_pos q5, bt (by omega)]
      rw [if_neg q5]
      by_cases q6 : x.f2 > 1000000000
      · rw [if_pos q6, bt (by omega)]
      rw [if_neg q6]
      by_cases q7 : x.f3 < 0
      · rw [if_pos q7, bt (by omega)]
      rw [if_neg q7]
      have e : decide (x.f3 > 1000000000) = badG x := by
        unfold badG
        by_cases q8 : x.f3 > 1000000000
        · rw [decide_eq_true q8, decide_eq_true (by omega)]
        · rw [decide_eq_false q8, decide_eq_false (by omega)]
      rw [e]
    refine Ev.step (f := fun k => skiarearef43_Right.j2 k gs hs (i : Int) (badG x) x.f0 x.f1 x.f2 x.f3) st ?_
    by_cases q : badG x = true
    · rw [if_pos q, q]; exact Ev.step (f := fun _ => some 2) (fun k => by simp only [skiarearef43_Right.j2, if_true]) (Ev.now 2)
    · have qf : badG x = false := by simpa using q
      rw [if_neg q, qf]
      have ht := ref_twice gs hs hn i hlt x h i 0 (by omega)
      rw [List.drop_zero] at ht
      exact Ev.step (f := fun k => skiarearef43_Right.l1 k gs hs (i : Int) ((0 : Nat) : Int) x.f0 x.f1 x.f2 x.f3) (fun k => by simp only [skiarearef43_Right.j2]; rw [if_neg (by decide)]; rfl) ht

theorem ref_right_ev (gs : List S42) (hs : List S39) : Ev (fun k => skiarearef43_Right.f k gs hs) (rightS gs hs) := by
  unfold rightS
  by_cases h : gs.length > 5 ∨ hs.length > 3
  · rw [if_pos h]
    refine Ev.congr (f := fun k => skiarearef43_Right.j0 k gs hs true) (fun k => ?_) (Ev.step (f := fun _ => some 4) (fun k => by simp only [skiarearef43_Right.j0, if_true]) (Ev.now 4))
    unfold skiarearef43_Right.f
    by_cases q : gs.length > 5
    · rw [if_pos (by omega)]
    · rw [if_neg (by omega), decide_eq_true (by omega)]
  · rw [if_neg h]
    have hg := ref_guns_loop gs hs (by omega) (by omega) gs.length 0 (by omega)
    rw [List.drop_zero] at hg
    refine Ev.congr (f := fun k => skiarearef43_Right.j0 k gs hs false) (fun k => ?_) (Ev.step (f := fun k => skiarearef43_Right.l0 k gs hs ((0 : Nat) : Int)) (fun k => by simp only [skiarearef43_Right.j0]; rw [if_neg (by decide)]; rfl) hg)
    unfold skiarearef43_Right.f
    rw [if_neg (by omega), decide_eq_false (by omega)]

def GR (g : S42) : Prop := 0 ≤ g.f1 ∧ g.f1 ≤ 1000000000 ∧ 0 ≤ g.f2 ∧ g.f2 ≤ 1000000000 ∧ 0 ≤ g.f3 ∧ g.f3 ≤ 1000000000
def HR (h : S39) : Prop := 0 ≤ h.f0 ∧ h.f0 ≤ 1000000000 ∧ 0 ≤ h.f1 ∧ h.f1 ≤ 1000
structure In (gs : List S42) (hs : List S39) : Prop where
  g5 : gs.length ≤ 5
  h3 : hs.length ≤ 3
  gr : ∀ g ∈ gs, GR g
  hr : ∀ h ∈ hs, HR h
theorem hoursS_zero (hs : List S39) (h : hoursS hs = 0) : ∀ x ∈ hs, HR x := by
  induction hs with
  | nil => intro x hx; simp at hx
  | cons y ys ih =>
    simp only [hoursS] at h
    by_cases q : badH y = true
    · rw [if_pos q] at h; cases h
    · rw [if_neg q] at h
      intro x hx
      rcases List.mem_cons.1 hx with rfl | hx
      · unfold badH at q; simp only [decide_eq_true_eq] at q; unfold HR; omega
      · exact ih h x hx
theorem gunsS_zero (gs : List S42) : ∀ (seen : List Int) (r : Int), gunsS gs seen r = 0 → r = 0 ∧ ∀ x ∈ gs, GR x := by
  induction gs with
  | nil => intro seen r h; exact ⟨h, fun x hx => by simp at hx⟩
  | cons y ys ih =>
    intro seen r h
    simp only [gunsS] at h
    by_cases q : badG y = true
    · rw [if_pos q] at h; cases h
    · rw [if_neg q] at h
      by_cases q2 : seenB seen y.f0 = true
      · rw [if_pos q2] at h; cases h
      · rw [if_neg q2] at h
        obtain ⟨a, b⟩ := ih _ _ h
        refine ⟨a, fun x hx => ?_⟩
        rcases List.mem_cons.1 hx with rfl | hx
        · unfold badG at q; simp only [decide_eq_true_eq] at q; unfold GR; omega
        · exact b x hx
theorem in_of {gs : List S42} {hs : List S39} (h : rightS gs hs = 0) : In gs hs := by
  unfold rightS at h
  by_cases q : gs.length > 5 ∨ hs.length > 3
  · rw [if_pos q] at h; cases h
  · rw [if_neg q] at h
    obtain ⟨a, b⟩ := gunsS_zero gs _ _ h
    exact ⟨by omega, by omega, b, hoursS_zero hs a⟩
def Asc (n : Nat) : Int → List Int → Prop
  | _, [] => True
  | prev, x :: xs => prev < x ∧ 0 ≤ x ∧ x < (n : Int) ∧ Asc n x xs
instance ascDec (n : Nat) : (prev : Int) → (p : List Int) → Decidable (Asc n prev p)
  | _, [] => isTrue trivial
  | prev, x :: xs => by
    unfold Asc
    have := ascDec n x xs
    infer_instance
def vl (gs : List S42) (h : S39) (x : Int) : Int := (gs.getD x.toNat z42).f3 * h.f1 / 1000
def sv (gs : List S42) (h : S39) : List Int → Int
  | [] => 0
  | x :: xs => vl gs h x + sv gs h xs
def sw (gs : List S42) : List Int → Int
  | [] => 0
  | x :: xs => (gs.getD x.toNat z42).f1 + sw gs xs
def sp (gs : List S42) : List Int → Int
  | [] => 0
  | x :: xs => (gs.getD x.toNat z42).f2 + sp gs xs

theorem at_gun {gs : List S42} (hg : ∀ g ∈ gs, GR g) {x : Int} (h0 : 0 ≤ x) (h1 : x < gs.length) : GR (gs.getD x.toNat z42) := hg _ (getD_mem gs z42 _ (by omega))
theorem vl_bd {gs : List S42} {h : S39} (hg : ∀ g ∈ gs, GR g) (hh : HR h) {x : Int} (h0 : 0 ≤ x) (h1 : x < gs.length) : 0 ≤ (gs.getD x.toNat z42).f3 * h.f1 ∧ (gs.getD x.toNat z42).f3 * h.f1 ≤ 1000000000000 ∧ 0 ≤ vl gs h x ∧ vl gs h x ≤ 1000000000 := by
  have a := at_gun hg h0 h1
  unfold GR at a
  unfold HR at hh
  have p0 : 0 ≤ (gs.getD x.toNat z42).f3 * h.f1 := Int.mul_nonneg (by omega) (by omega)
  have p1 : (gs.getD x.toNat z42).f3 * h.f1 ≤ 1000000000 * 1000 := Int.mul_le_mul (by omega) (by omega) (by omega) (by omega)
  unfold vl
  omega
theorem sums_bd {gs : List S42} {h : S39} (hg : ∀ g ∈ gs, GR g) (hh : HR h) (p : List Int) : ∀ prev : Int, -1 ≤ prev → Asc gs.length prev p →
    (p.length : Int) ≤ (gs.length : Int) - 1 - prev ∧ 0 ≤ sv gs h p ∧ sv gs h p ≤ 1000000000 * (p.length : Int) ∧ 0 ≤ sw gs p ∧ sw gs p ≤ 1000000000 * (p.length : Int) ∧ 0 ≤ sp gs p ∧ sp gs p ≤ 1000000000 * (p.length : Int) ∨ p = [] := by
  induction p with
  | nil => intro prev _ _; exact .inr rfl
  | cons x xs ih =>
    intro prev hp ha
    obtain ⟨a1, a2, a3, a4⟩ := ha
    have b := at_gun hg a2 a3
    obtain ⟨_, _, v1, v2⟩ := vl_bd hg hh a2 a3
    unfold GR at b
    left
    simp only [sv, sw, sp, List.length_cons]
    rcases ih x (by omega) a4 with q | rfl
    · omega
    · simp only [sv, sw, sp, List.length_nil]; omega
theorem sums {gs : List S42} {h : S39} (hg : ∀ g ∈ gs, GR g) (hh : HR h) (g5 : gs.length ≤ 5) {p : List Int} (ha : Asc gs.length (-1) p) :
    p.length ≤ 5 ∧ 0 ≤ sv gs h p ∧ sv gs h p ≤ 5000000000 ∧ 0 ≤ sw gs p ∧ sw gs p ≤ 5000000000 ∧ 0 ≤ sp gs p ∧ sp gs p ≤ 5000000000 := by
  rcases sums_bd hg hh p (-1) (by omega) ha with q | rfl
  · omega
  · simp [sv, sw, sp]

def selF (s : Nat) : Nat → Nat → List Int
  | 0, _ => []
  | d + 1, j => if s.testBit j = true then (j : Int) :: selF s d (j + 1) else selF s d (j + 1)
def sel (n s : Nat) : List Int := selF s n 0

theorem selF_asc (s n : Nat) : ∀ (d j : Nat) (prev : Int), prev < (j : Int) → j + d ≤ n → Asc n prev (selF s d j) := by
  intro d
  induction d with
  | zero => intro j prev _ _; trivial
  | succ d ih =>
    intro j prev hp hn
    simp only [selF]
    by_cases q : s.testBit j = true
    · rw [if_pos q]; exact ⟨hp, by omega, by omega, ih (j + 1) j (by omega) (by omega)⟩
    · rw [if_neg q]; exact ih (j + 1) prev (by omega) (by omega)
theorem sel_asc (n s : Nat) : Asc n (-1) (sel n s) := selF_asc s n n 0 (-1) (by omega) (by omega)
theorem selF_congr (s t : Nat) : ∀ (d j : Nat), (∀ i, j ≤ i → i < j + d → s.testBit i = t.testBit i) → selF s d j = selF t d j := by
  intro d
  induction d with
  | zero => intro j _; rfl
  | succ d ih =>
    intro j h
    simp only [selF]
    rw [h j (Nat.le_refl _) (by omega), ih (j + 1) (fun i h1 h2 => h i (by omega) (by omega))]
theorem selF_none (s : Nat) : ∀ (d j : Nat), (∀ i, j ≤ i → i < j + d → s.testBit i = false) → selF s d j = [] := by
  intro d
  induction d with
  | zero => intro j _; rfl
  | succ d ih =>
    intro j h
    simp only [selF]
    rw [h j (Nat.le_refl _) (by omega), if_neg (by decide), ih (j + 1) (fun i h1 h2 => h i (by omega) (by omega))]
theorem selF_split (s : Nat) : ∀ (d j e : Nat), selF s (d + e) j = selF s d j ++ selF s e (j + d) := by
  intro d
  induction d with
  | zero => intro j e; simp [selF]
  | succ d ih =>
    intro j e
    rw [show d + 1 + e = (d + e) + 1 by omega]
    simp only [selF]
    rw [ih (j + 1) e, show j + 1 + d = j + (d + 1) by omega]
    split
    · rfl
    · rfl
theorem sel_five {n s : Nat} (hn : n ≤ 5) (hs : s < 2 ^ n) : selF s 5 0 = sel n s := by
  have e : selF s 5 0 = selF s n 0 ++ selF s (5 - n) (0 + n) := by rw [← selF_split, show n + (5 - n) = 5 by omega]
  rw [e, selF_none s (5 - n) (0 + n) (fun i h1 h2 => Nat.testBit_lt_two_pow (Nat.lt_of_lt_of_le hs (Nat.pow_le_pow_right (by decide) (by omega))))]
  simp [sel]

theorem set_of (n : Nat) : ∀ (d j : Nat) (prev : Int) (p : List Int), j + d = n → (j : Int) ≤ prev + 1 ∨ d = 0 → prev + 1 ≤ (j : Int) ∨ True → (∀ x ∈ p, (j : Int) ≤ x) → Asc n prev p →
    ∃ s : Nat, selF s d j = p ∧ ∀ i, (i < j ∨ n ≤ i) → s.testBit i = false := by
  intro d
  induction d with
  | zero =>
    intro j prev p hj _ _ hx ha
    cases p with
    | nil => exact ⟨0, rfl, fun i _ => by simp⟩
    | cons x xs =>
      have := hx x (by simp)
      have := ha.2.2.1
      omega
  | succ d ih =>
    intro j prev p hj _ _ hx ha
    cases p with
    | nil => exact ⟨0, selF_none 0 _ _ (fun i _ _ => by simp), fun i _ => by simp⟩
    | cons x xs =>
      obtain ⟨a1, a2, a3, a4⟩ := ha
      have hxj := hx x (by simp)
      have above : ∀ y ∈ xs, x < y := by
        have gen : ∀ (ys : List Int) (q : Int), Asc n q ys → ∀ y ∈ ys, q < y := by
          intro ys
          induction ys with
          | nil => intro q _ y hy; simp at hy
          | cons z zs ihz =>
            intro q hq y hy
            obtain ⟨b1, _, _, b4⟩ := hq
            rcases List.mem_cons.1 hy with rfl | hy
            · exact b1
            · have := ihz z b4 y hy; omega
        exact gen xs x a4
      by_cases q : x = (j : Int)
      · subst q
        obtain ⟨s, hs, hb⟩ := ih (j + 1) (j : Int) xs (by omega) (.inl (by omega)) (.inr trivial) (fun y hy => by have := above y hy; omega) a4
        have hbit : ∀ i, (s ||| 1 <<< j).testBit i = (s.testBit i || decide (i = j)) := by
          intro i; rw [Nat.testBit_or, Nat.one_shiftLeft, Nat.testBit_two_pow]; congr 1; exact decide_eq_decide.2 ⟨Eq.symm, Eq.symm⟩
        refine ⟨s ||| 1 <<< j, ?_, fun i hi => ?_⟩
        · simp only [selF]
          rw [hbit j, decide_eq_true rfl, Bool.or_true, if_pos rfl, selF_congr (s ||| 1 <<< j) s d (j + 1) (fun i h1 h2 => by rw [hbit i, decide_eq_false (by omega), Bool.or_false]), hs]
        · rw [hbit i, hb i (by omega), decide_eq_false (by omega)]; rfl
      · obtain ⟨s, hs, hb⟩ := ih (j + 1) (x - 1) (x :: xs) (by omega) (.inl (by omega)) (.inr trivial) (fun y hy => by
          rcases List.mem_cons.1 hy with rfl | hy
          · omega
          · have := above y hy; omega) ⟨by omega, a2, a3, a4⟩
        refine ⟨s, ?_, fun i hi => hb i (by omega)⟩
        simp only [selF]
        rw [hb j (by omega), if_neg (by decide), hs]
theorem sel_ex {n : Nat} {p : List Int} (h : Asc n (-1) p) : ∃ s, s < 2 ^ n ∧ sel n s = p := by
  have h0 : ∀ (p : List Int) (q : Int), -1 ≤ q → Asc n q p → ∀ x ∈ p, ((0 : Nat) : Int) ≤ x := by
    intro p
    induction p with
    | nil => intro q _ _ x hx; simp at hx
    | cons y ys ih =>
      intro q hq ha x hx
      obtain ⟨b1, b2, _, b4⟩ := ha
      rcases List.mem_cons.1 hx with rfl | hx
      · omega
      · exact ih y (by omega) b4 x hx
  obtain ⟨s, hs, hb⟩ := set_of n n 0 (-1) p (by omega) (.inl (by omega)) (.inr trivial) (h0 p (-1) (by omega) h) h
  exact ⟨s, Nat.lt_pow_two_of_testBit _ (fun i hi => hb i (.inr hi)), hs⟩

def pickS (F : Nat → Option (Int × List Nat)) : Nat → Nat → Int → List Nat → Int × List Nat
  | 0, _, b, l => (b, l)
  | d + 1, j, b, l => match F j with
    | none => pickS F d (j + 1) b l
    | some (v, s) => if v > b then pickS F d (j + 1) v s else pickS F d (j + 1) b l
def sch (gs : List S42) : List S39 → Int → Int × List Nat
  | [], _ => (0, [])
  | h :: hs, w => pickS (fun s => if sp gs (sel gs.length s) > h.f0 then none else if sw gs (sel gs.length s) > w then none else
      some (sv gs h (sel gs.length s) + (sch gs hs (w - sw gs (sel gs.length s))).1, s :: (sch gs hs (w - sw gs (sel gs.length s))).2)) (2 ^ gs.length) 0 (-1) []

theorem pickS_spec (F : Nat → Option (Int × List Nat)) : ∀ d j b l, (pickS F d j b l = (b, l) ∨ ∃ i, j ≤ i ∧ i < j + d ∧ F i = some (pickS F d j b l)) ∧ b ≤ (pickS F d j b l).1 ∧
    ∀ i, j ≤ i → i < j + d → ∀ v s, F i = some (v, s) → v ≤ (pickS F d j b l).1 := by
  intro d
  induction d with
  | zero => intro j b l; exact ⟨.inl rfl, Int.le_refl _, fun i h1 h2 => by omega⟩
  | succ d ih =>
    intro j b l
    simp only [pickS]
    cases hF : F j with
    | none =>
      simp only []
      obtain ⟨p, q, r⟩ := ih (j + 1) b l
      refine ⟨?_, q, fun i h1 h2 v s h => ?_⟩
      · rcases p with p | ⟨i, a, b', c⟩
        · exact .inl p
        · exact .inr ⟨i, by omega, by omega, c⟩
      · by_cases e : i = j
        · subst e; rw [hF] at h; cases h
        · exact r i (by omega) (by omega) v s h
    | some vs =>
      obtain ⟨v0, s0⟩ := vs
      simp only []
      by_cases hv : v0 > b
      · rw [if_pos hv]
        obtain ⟨p, q, r⟩ := ih (j + 1) v0 s0
        refine ⟨?_, by omega, fun i h1 h2 v s h => ?_⟩
        · rcases p with p | ⟨i, a, b', c⟩
          · exact .inr ⟨j, Nat.le_refl _, by omega, by rw [hF, p]⟩
          · exact .inr ⟨i, by omega, by omega, c⟩
        · by_cases e : i = j
          · subst e; rw [hF] at h; injection h with h; injection h with h1 h2; omega
          · exact r i (by omega) (by omega) v s h
      · rw [if_neg hv]
        obtain ⟨p, q, r⟩ := ih (j + 1) b l
        refine ⟨?_, q, fun i h1 h2 v s h => ?_⟩
        · rcases p with p | ⟨i, a, b', c⟩
          · exact .inl p
          · exact .inr ⟨i, by omega, by omega, c⟩
        · by_cases e : i = j
          · subst e; rw [hF] at h; injection h with h; injection h with h1 h2; omega
          · exact r i (by omega) (by omega) v s h

def Feas (gs : List S42) : List S39 → Int → List (List Int) → Prop
  | [], _, [] => True
  | h :: hs, w, p :: ps => Asc gs.length (-1) p ∧ sp gs p ≤ h.f0 ∧ sw gs p ≤ w ∧ Feas gs hs (w - sw gs p) ps
  | _, _, _ => False
def pv (gs : List S42) : List S39 → List (List Int) → Int
  | h :: hs, p :: ps => sv gs h p + pv gs hs ps
  | _, _ => 0
def pw (gs : List S42) : List (List Int) → Int
  | [] => 0
  | p :: ps => sw gs p + pw gs ps

theorem sch_spec (gs : List S42) (g5 : gs.length ≤ 5) (hg : ∀ g ∈ gs, GR g) (hs : List S39) : ∀ (w : Int), (∀ h ∈ hs, HR h) → 0 ≤ w →
    0 ≤ (sch gs hs w).1 ∧ (sch gs hs w).1 ≤ 5000000000 * (hs.length : Int) ∧ (sch gs hs w).2.length = hs.length ∧ (∀ s ∈ (sch gs hs w).2, s < 2 ^ gs.length) ∧
    Feas gs hs w ((sch gs hs w).2.map (sel gs.length)) ∧ pv gs hs ((sch gs hs w).2.map (sel gs.length)) = (sch gs hs w).1 ∧ ∀ ps, Feas gs hs w ps → pv gs hs ps ≤ (sch gs hs w).1 := by
  induction hs with
  | nil =>
    intro w _ _
    refine ⟨Int.le_refl _, by simp [sch], rfl, fun s hx => by simp [sch] at hx, trivial, rfl, fun ps h => ?_⟩
    cases ps with
    | nil => exact Int.le_refl _
    | cons p ps => exact absurd h (by simp [Feas])
  | cons h hs ih =>
    intro w hr hw
    have hh := hr h (by simp)
    have hr' : ∀ x ∈ hs, HR x := fun x hx => hr x (by simp [hx])
    generalize hF : (fun s => if sp gs (sel gs.length s) > h.f0 then none else if sw gs (sel gs.length s) > w then none else
      some (sv gs h (sel gs.length s) + (sch gs hs (w - sw gs (sel gs.length s))).1, s :: (sch gs hs (w - sw gs (sel gs.length s))).2)) = F
    have e : sch gs (h :: hs) w = pickS F (2 ^ gs.length) 0 (-1) [] := by rw [← hF]; rfl
    obtain ⟨p1, p2, p3⟩ := pickS_spec F (2 ^ gs.length) 0 (-1) []
    rw [← e] at p1 p2 p3
    have hFs : ∀ s, sp gs (sel gs.length s) ≤ h.f0 → sw gs (sel gs.length s) ≤ w → F s = some (sv gs h (sel gs.length s) + (sch gs hs (w - sw gs (sel gs.length s))).1, s :: (sch gs hs (w - sw gs (sel gs.length s))).2) := by
      intro s h1 h2
      rw [← hF]
      show (if sp gs (sel gs.length s) > h.f0 then none else _) = _
      rw [if_neg (by omega), if_neg (by omega)]
    have hFi : ∀ s r, F s = some r → sp gs (sel gs.length s) ≤ h.f0 ∧ sw gs (sel gs.length s) ≤ w ∧ r = (sv gs h (sel gs.length s) + (sch gs hs (w - sw gs (sel gs.length s))).1, s :: (sch gs hs (w - sw gs (sel gs.length s))).2) := by
      intro s r hr2
      rw [← hF] at hr2
      simp only [] at hr2
      by_cases q1 : sp gs (sel gs.length s) > h.f0
      · rw [if_pos q1] at hr2; cases hr2
      · rw [if_neg q1] at hr2
        by_cases q2 : sw gs (sel gs.length s) > w
        · rw [if_pos q2] at hr2; cases hr2
        · rw [if_neg q2] at hr2; exact ⟨by omega, by omega, (Option.some.inj hr2).symm⟩
    have hall : ∀ ps, Feas gs (h :: hs) w ps → pv gs (h :: hs) ps ≤ (sch gs (h :: hs) w).1 := by
      intro ps hf
      cases ps with
      | nil => exact absurd hf (by simp [Feas])
      | cons p ps =>
        obtain ⟨f1, f2, f3, f4⟩ := hf
        obtain ⟨s, s1, s2⟩ := sel_ex f1
        subst s2
        obtain ⟨_, _, _, _, _, _, best⟩ := ih (w - sw gs (sel gs.length s)) hr' (by omega)
        have := best ps f4
        have := p3 s (Nat.zero_le _) (by omega) _ _ (hFs s f2 f3)
        simp only [pv]; omega
    -- no gun at all is a plan of each hour
    have hempty : 0 ≤ (sch gs (h :: hs) w).1 := by
      have es : sel gs.length 0 = [] := selF_none 0 _ _ (fun i _ _ => by simp)
      have hz := hFs 0 (by rw [es]; unfold HR at hh; simp [sp]; omega) (by rw [es]; simp [sw]; omega)
      have := p3 0 (Nat.zero_le _) (by have := Nat.pow_pos (n := gs.length) (show 0 < 2 by decide); omega) _ _ hz
      have := (ih (w - sw gs (sel gs.length 0)) hr' (by rw [es]; simp [sw]; omega)).1
      rw [es] at *
      simp only [sv] at *
      omega
    rcases p1 with q | ⟨i, _, i2, i3⟩
    · rw [q] at hempty; simp at hempty
    · obtain ⟨f1, f2, f3⟩ := hFi i _ i3
      have sb := sums hg hh g5 (sel_asc gs.length i)
      obtain ⟨r1, r2, r3, r4, r5, r6, _⟩ := ih (w - sw gs (sel gs.length i)) hr' (by omega)
      rw [f3] at hempty hall ⊢
      refine ⟨hempty, ?_, ?_, ?_, ?_, ?_, hall⟩
      · simp only [List.length_cons]; omega
      · simp only [List.length_cons]; rw [r3]
      · intro s hs'
        rcases List.mem_cons.1 hs' with rfl | hs'
        · omega
        · exact r4 s hs'
      · exact ⟨sel_asc _ _, f1, f2, r5⟩
      · simp only [List.map_cons, pv]; rw [r6]

def AllAsc (n : Nat) : List S39 → List (List Int) → Prop
  | [], [] => True
  | _ :: hs, p :: ps => Asc n (-1) p ∧ AllAsc n hs ps
  | _, _ => False
def Pow (gs : List S42) : List S39 → List (List Int) → Bool
  | h :: hs, p :: ps => decide (sp gs p ≤ h.f0) && Pow gs hs ps
  | _, _ => true
theorem feas_iff (gs : List S42) (g5 : gs.length ≤ 5) (hg : ∀ g ∈ gs, GR g) (hs : List S39) : ∀ (w : Int) (ps : List (List Int)), (∀ h ∈ hs, HR h) → 0 ≤ w →
    (Feas gs hs w ps ↔ AllAsc gs.length hs ps ∧ Pow gs hs ps = true ∧ pw gs ps ≤ w) ∧ (AllAsc gs.length hs ps → 0 ≤ pw gs ps ∧ pw gs ps ≤ 5000000000 * (hs.length : Int) ∧ 0 ≤ pv gs hs ps ∧ pv gs hs ps ≤ 5000000000 * (hs.length : Int) ∧ ps.length = hs.length) := by
  induction hs with
  | nil =>
    intro w ps _ hw
    cases ps with
    | nil => exact ⟨⟨fun _ => ⟨trivial, rfl, by simpa [pw] using hw⟩, fun _ => trivial⟩, fun _ => by simp [pw, pv]⟩
    | cons p ps => exact ⟨⟨fun h => absurd h (by simp [Feas]), fun h => absurd h.1 (by simp [AllAsc])⟩, fun h => absurd h (by simp [AllAsc])⟩
  | cons h hs ih =>
    intro w ps hr hw
    cases ps with
    | nil => exact ⟨⟨fun h => absurd h (by simp [Feas]), fun h => absurd h.1 (by simp [AllAsc])⟩, fun h => absurd h (by simp [AllAsc])⟩
    | cons p ps =>
      have hh := hr h (by simp)
      have hr' : ∀ x ∈ hs, HR x := fun x hx => hr x (by simp [hx])
      constructor
      · constructor
        · rintro ⟨f1, f2, f3, f4⟩
          have i1 := ih (w - sw gs p) ps hr' (by omega)
          obtain ⟨a1, a2, a3⟩ := i1.1.1 f4
          refine ⟨⟨f1, a1⟩, ?_, by simp only [pw]; omega⟩
          simp only [Pow]; rw [decide_eq_true f2, a2]; rfl
        · rintro ⟨⟨f1, a1⟩, a2, a3⟩
          simp only [Pow, Bool.and_eq_true, decide_eq_true_eq] at a2
          simp only [pw] at a3
          have hb := ((ih 0 ps hr' (by omega)).2 a1).1
          exact ⟨f1, a2.1, by omega, ((ih (w - sw gs p) ps hr' (by omega)).1).2 ⟨a1, a2.2, by omega⟩⟩
      · rintro ⟨f1, a1⟩
        have hb := (ih 0 ps hr' (by omega)).2 a1
        have sb := sums hg hh g5 f1
        simp only [pw, pv, List.length_cons]
        omega
theorem list_loop (s : Nat) (hs : s < 256) : ∀ (d j : Nat) (acc : List Int), j + d = 5 → acc.length ≤ j → Ev (fun k => snowplan_list.l0 k (s : Int) acc (j : Int)) (acc ++ selF s d j) := by
  intro d
  induction d with
  | zero =>
    intro j acc hj _
    simp only [selF, List.append_nil]
    exact Ev.step (f := fun _ => some acc) (fun k => by simp only [snowplan_list.l0]; rw [if_neg (by omega)]) (Ev.now _)
  | succ d ih =>
    intro j acc hj ha
    simp only [selF]
    have st : ∀ k, snowplan_list.l0 (k + 1) (s : Int) acc (j : Int) = if s.testBit j = true then snowplan_list.l0 k (s : Int) (acc ++ [(j : Int)]) ((j + 1 : Nat) : Int) else snowplan_list.l0 k (s : Int) acc ((j + 1 : Nat) : Int) := by
      intro k
      simp only [snowplan_list.l0]
      rw [if_pos (by omega), if_pos (by omega), ask hs (by omega), w64s j 5 (by omega) (by omega)]
      by_cases q : s.testBit j = true
      · rw [if_pos q, if_pos rfl, if_pos (by omega), if_pos q]
      · rw [if_neg q, if_neg (by decide), if_neg q]
    by_cases q : s.testBit j = true
    · rw [if_pos q]
      have h := ih (j + 1) (acc ++ [(j : Int)]) (by omega) (by simp; omega)
      rw [List.append_assoc] at h
      exact Ev.step (f := fun k => snowplan_list.l0 k (s : Int) (acc ++ [(j : Int)]) ((j + 1 : Nat) : Int)) (fun k => by rw [st, if_pos q]) h
    · rw [if_neg q]
      exact Ev.step (f := fun k => snowplan_list.l0 k (s : Int) acc ((j + 1 : Nat) : Int)) (fun k => by rw [st, if_neg q]) (ih (j + 1) acc (by omega) (by omega))
theorem pow_le {a b : Nat} (h : a ≤ b) : 2 ^ a ≤ 2 ^ b := Nat.pow_le_pow_right (by decide) h
theorem list_ev {n s : Nat} (hn : n ≤ 5) (hs : s < 2 ^ n) : Ev (fun k => snowplan_list.f k (s : Int)) (sel n s) := by
  have hs2 : s < 2 ^ 5 := Nat.lt_of_lt_of_le hs (pow_le hn)
  have h := list_loop s (by omega) 5 0 [] (by omega) (by simp)
  rw [List.nil_append, sel_five hn hs] at h
  exact h
def prevOf (p : List Int) : Nat → Int
  | 0 => -1
  | m + 1 => p.getD m 0
theorem rdG_int (gs : List S42) (x : Int) (h0 : 0 ≤ x) : rd_T42 gs x = gs.getD x.toNat z42 := by
  obtain ⟨n, rfl⟩ : ∃ n : Nat, x = n := ⟨x.toNat, by omega⟩
  simp [rd_T42]
theorem step_sum {gs : List S42} {h : S39} (hg : ∀ g ∈ gs, GR g) (hh : HR h) {x : Int} (h0 : 0 ≤ x) (h1 : x < gs.length) {v w u : Int} {i : Nat} (hi : i ≤ 1000) (v0 : 0 ≤ v) (v1 : v ≤ 1000000000 * (i : Int)) (w0 : 0 ≤ w) (w1 : w ≤ 1000000000 * (i : Int)) (u0 : 0 ≤ u) (u1 : u ≤ 1000000000 * (i : Int)) :
    wrap64 (v + wrap64 (Int.tdiv (wrap64 ((rd_T42 gs x).f3 * h.f1)) 1000)) = v + vl gs h x ∧ wrap64 (w + (rd_T42 gs x).f1) = w + (gs.getD x.toNat z42).f1 ∧ wrap64 (u + (rd_T42 gs x).f2) = u + (gs.getD x.toNat z42).f2 ∧
    0 ≤ v + vl gs h x ∧ v + vl gs h x ≤ 1000000000 * ((i + 1 : Nat) : Int) ∧ 0 ≤ w + (gs.getD x.toNat z42).f1 ∧ w + (gs.getD x.toNat z42).f1 ≤ 1000000000 * ((i + 1 : Nat) : Int) ∧ 0 ≤ u + (gs.getD x.toNat z42).f2 ∧ u + (gs.getD x.toNat z42).f2 ≤ 1000000000 * ((i + 1 : Nat) : Int) := by
  obtain ⟨p0, p1, p2, p3⟩ := vl_bd hg hh h0 h1
  have a := at_gun hg h0 h1
  unfold GR at a
  rw [rdG_int gs x h0]
  have e : Int.tdiv (wrap64 ((gs.getD x.toNat z42).f3 * h.f1)) 1000 = vl gs h x := by
    rw [w64 (by omega) (by omega), Int.tdiv_eq_ediv_of_nonneg p0]; rfl
  rw [e, w64 (x := vl gs h x) (by omega) (by omega), w64 (by omega) (by omega), w64 (by omega) (by omega), w64 (by omega) (by omega)]
  refine ⟨rfl, rfl, rfl, ?_⟩
  omega

theorem of_loop (gs : List S42) (h : S39) (hg : ∀ g ∈ gs, GR g) (hh : HR h) (p : List Int) (hp : p.length ≤ 1000) : ∀ (d i : Nat) (v w u : Int), i + d = p.length → 0 ≤ v → v ≤ 1000000000 * (i : Int) → 0 ≤ w → w ≤ 1000000000 * (i : Int) → 0 ≤ u → u ≤ 1000000000 * (i : Int) →
    Ev (fun k => snowplan_of.l0 k gs p p (p.length : Int) (i : Int) h.f0 h.f1 v w u) (if Asc gs.length (prevOf p i) (p.drop i) then (v + sv gs h (p.drop i), w + sw gs (p.drop i), u + sp gs (p.drop i), true) else (0, 0, 0, false)) := by
  intro d
  induction d with
  | zero =>
    intro i v w u hi _ _ _ _ _ _
    rw [List.drop_of_length_le (by omega), if_pos (by trivial)]
    simp only [sv, sw, sp, Int.add_zero]
    exact Ev.step (f := fun _ => some (v, w, u, true)) (fun k => by simp only [snowplan_of.l0]; rw [if_neg (by omega)]) (Ev.now _)
  | succ d ih =>
    intro i v w u hi v0 v1 w0 w1 u0 u1
    have hlt : i < p.length := by omega
    rw [getD_drop p 0 i hlt]
    have hprev : prevOf p (i + 1) = p.getD i 0 := rfl
    generalize hx : p.getD i 0 = x at *
    -- the step
    have st : ∀ k, snowplan_of.l0 (k + 1) gs p p (p.length : Int) (i : Int) h.f0 h.f1 v w u = if prevOf p i < x ∧ 0 ≤ x ∧ x < (gs.length : Int) then snowplan_of.l0 k gs p p (p.length : Int) ((i + 1 : Nat) : Int) h.f0 h.f1 (wrap64 (v + wrap64 (Int.tdiv (wrap64 ((rd_T42 gs x).f3 * h.f1)) 1000))) (wrap64 (w + (rd_T42 gs x).f1)) (wrap64 (u + (rd_T42 gs x).f2)) else some (0, 0, 0, false) := by
      intro k
      simp only [snowplan_of.l0]
      rw [if_pos (by omega), if_pos (by omega), if_pos (by omega), rd_nat, hx]
      by_cases q1 : x < 0
      · rw [if_pos q1, if_neg (by omega)]
      rw [if_neg q1]
      by_cases q2 : x ≥ (gs.length : Int)
      · rw [if_pos q2, if_neg (by omega)]
      rw [if_neg q2]
      cases i with
      | zero =>
        rw [if_neg (by omega), if_pos (by omega), if_pos (by omega), if_pos (by simp only [prevOf]; omega), w64s 0 p.length (by omega) (by omega)]
      | succ m =>
        have e : wrap64 (((m + 1 : Nat) : Int) - 1) = (m : Int) := by rw [w64 (by omega) (by omega)]; omega
        rw [if_pos (by omega), e, if_pos (by omega), if_pos (by omega), rd_nat]
        have hpv : prevOf p (m + 1) = p.getD m 0 := rfl
        rw [hpv]
        by_cases q3 : x ≤ p.getD m 0
        · rw [if_pos q3, if_neg (by omega)]
        · rw [if_neg q3, if_pos (by omega), if_pos (by omega), if_pos (by omega), w64s (m + 1) p.length (by omega) (by omega)]
    by_cases q : prevOf p i < x ∧ 0 ≤ x ∧ x < (gs.length : Int)
    · obtain ⟨e1, e2, e3, b⟩ := step_sum hg hh q.2.1 q.2.2 (i := i) (by omega) v0 v1 w0 w1 u0 u1
      have H := ih (i + 1) (v + vl gs h x) (w + (gs.getD x.toNat z42).f1) (u + (gs.getD x.toNat z42).f2) (by omega) b.1 b.2.1 b.2.2.1 b.2.2.2.1 b.2.2.2.2.1 b.2.2.2.2.2
      rw [hprev] at H
      refine Ev.step (f := fun k => snowplan_of.l0 k gs p p (p.length : Int) ((i + 1 : Nat) : Int) h.f0 h.f1 (v + vl gs h x) (w + (gs.getD x.toNat z42).f1) (u + (gs.getD x.toNat z42).f2)) (fun k => by rw [st, if_pos q, e1, e2, e3]) ?_
      by_cases qa : Asc gs.length x (p.drop (i + 1))
      · rw [if_pos qa] at H
        rw [if_pos ⟨q.1, q.2.1, q.2.2, qa⟩]
        simp only [sv, sw, sp]
        rw [← Int.add_assoc, ← Int.add_assoc, ← Int.add_assoc]; exact H
      · rw [if_neg qa] at H
        rw [if_neg (fun z => qa z.2.2.2)]; exact H
    · rw [if_neg (fun z => q ⟨z.1, z.2.1, z.2.2.1⟩)]
      exact Ev.step (f := fun _ => some (0, 0, 0, false)) (fun k => by rw [st, if_neg q]) (Ev.now _)
theorem of_ev (gs : List S42) (h : S39) (hg : ∀ g ∈ gs, GR g) (hh : HR h) (p : List Int) (hp : p.length ≤ 1000) :
    Ev (fun k => snowplan_of.f k gs h.f0 h.f1 p) (if Asc gs.length (-1) p then (sv gs h p, sw gs p, sp gs p, true) else (0, 0, 0, false)) := by
  have H := of_loop gs h hg hh p hp p.length 0 0 0 0 (by omega) (by omega) (by omega) (by omega) (by omega) (by omega) (by omega)
  rw [List.drop_zero] at H
  simp only [Int.zero_add] at H
  exact H
theorem of_good (gs : List S42) (h : S39) (hg : ∀ g ∈ gs, GR g) (hh : HR h) (p : List Int) (hp : p.length ≤ 1000) (ha : Asc gs.length (-1) p) :
    Ev (fun k => snowplan_of.f k gs h.f0 h.f1 p) (sv gs h p, sw gs p, sp gs p, true) := by
  have H := of_ev gs h hg hh p hp
  rwa [if_pos ha] at H

instance allAscDec (n : Nat) : (hs : List S39) → (ps : List (List Int)) → Decidable (AllAsc n hs ps)
  | [], [] => isTrue trivial
  | [], _ :: _ => isFalse (by simp [AllAsc])
  | _ :: _, [] => isFalse (by simp [AllAsc])
  | h :: hs, p :: ps => by
    unfold AllAsc
    have := allAscDec n hs ps
    infer_instance
theorem total_loop (gs : List S42) (g5 : gs.length ≤ 5) (hg : ∀ g ∈ gs, GR g) (hs : List S39) (hm : hs.length ≤ 1000) (hr : ∀ h ∈ hs, HR h) (ps : List (List Int)) (hl : ps.length = hs.length) (hp : ∀ p ∈ ps, p.length ≤ 1000) : ∀ (d i : Nat) (b : Bool) (v w : Int), i + d = hs.length → 0 ≤ v → v ≤ 5000000000 * (i : Int) → 0 ≤ w → w ≤ 5000000000 * (i : Int) →
    Ev (fun k => snowplan_total.l0 k gs ps b hs (hs.length : Int) (i : Int) v w 0) (if AllAsc gs.length (hs.drop i) (ps.drop i) then (v + pv gs (hs.drop i) (ps.drop i), w + pw gs (ps.drop i), 0, true, b && Pow gs (hs.drop i) (ps.drop i)) else (0, 0, 0, false, false)) := by
  intro d
  induction d with
  | zero =>
    intro i b v w hi _ _ _ _
    rw [List.drop_of_length_le (by omega), List.drop_of_length_le (by omega), if_pos (by trivial)]
    simp only [pv, pw, Pow, Int.add_zero, Bool.and_true]
    exact Ev.step (f := fun _ => some (v, w, 0, true, b)) (fun k => by simp only [snowplan_total.l0]; rw [if_neg (by omega)]) (Ev.now _)
  | succ d ih =>
    intro i b v w hi v0 v1 w0 w1
    have hlt : i < hs.length := by omega
    have hh := hr _ (getD_mem hs z39 i hlt)
    have hpl := hp _ (getD_mem ps [] i (by omega))
    rw [getD_drop hs z39 i hlt, getD_drop ps [] i (by omega)]
    generalize hx : hs.getD i z39 = h at *
    generalize hy : ps.getD i [] = p at *
    have ho := of_ev gs h hg hh p hpl
    have st : ∀ k, snowplan_total.l0 (k + 1) gs ps b hs (hs.length : Int) (i : Int) v w 0 = (snowplan_of.f k gs h.f0 h.f1 p).bind fun t => if t.2.2.2 = true then (if b = true then snowplan_total.l0 k gs ps (decide (t.2.2.1 ≤ h.f0)) hs (hs.length : Int) ((i + 1 : Nat) : Int) (wrap64 (v + t.1)) (wrap64 (w + t.2.1)) 0 else snowplan_total.l0 k gs ps false hs (hs.length : Int) ((i + 1 : Nat) : Int) (wrap64 (v + t.1)) (wrap64 (w + t.2.1)) 0) else some (0, 0, 0, false, false) := by
      intro k
      simp only [snowplan_total.l0]
      rw [if_pos (by omega), if_pos (by omega), if_pos (by omega), if_pos (by omega), rdH_nat, rdL_nat, hx, hy, w64s i hs.length hlt (by omega)]
    refine Ev.step (f := fun k => (snowplan_of.f k gs h.f0 h.f1 p).bind fun t => if t.2.2.2 = true then (if b = true then snowplan_total.l0 k gs ps (decide (t.2.2.1 ≤ h.f0)) hs (hs.length : Int) ((i + 1 : Nat) : Int) (wrap64 (v + t.1)) (wrap64 (w + t.2.1)) 0 else snowplan_total.l0 k gs ps false hs (hs.length : Int) ((i + 1 : Nat) : Int) (wrap64 (v + t.1)) (wrap64 (w + t.2.1)) 0) else some (0, 0, 0, false, false)) st ?_
    by_cases qa : Asc gs.length (-1) p
    · rw [if_pos qa] at ho
      refine Ev.bind ho ?_
      simp only [if_true]
      obtain ⟨s0, s1, s2, s3, s4, s5, s6⟩ := sums hg hh g5 qa
      rw [w64 (x := v + sv gs h p) (by omega) (by omega), w64 (x := w + sw gs p) (by omega) (by omega)]
      have H := ih (i + 1) (b && decide (sp gs p ≤ h.f0)) (v + sv gs h p) (w + sw gs p) (by omega) (by omega) (by omega) (by omega) (by omega)
      have e : (if AllAsc gs.length (h :: hs.drop (i + 1)) (p :: ps.drop (i + 1)) then (v + pv gs (h :: hs.drop (i + 1)) (p :: ps.drop (i + 1)), w + pw gs (p :: ps.drop (i + 1)), (0 : Int), true, b && Pow gs (h :: hs.drop (i + 1)) (p :: ps.drop (i + 1))) else (0, 0, 0, false, false)) =
          (if AllAsc gs.length (hs.drop (i + 1)) (ps.drop (i + 1)) then (v + sv gs h p + pv gs (hs.drop (i + 1)) (ps.drop (i + 1)), w + sw gs p + pw gs (ps.drop (i + 1)), 0, true, (b && decide (sp gs p ≤ h.f0)) && Pow gs (hs.drop (i + 1)) (ps.drop (i + 1))) else (0, 0, 0, false, false)) := by
        by_cases q : AllAsc gs.length (hs.drop (i + 1)) (ps.drop (i + 1))
        · rw [if_pos q, if_pos ⟨qa, q⟩]
          simp only [pv, pw, Pow, Int.add_assoc, Bool.and_assoc]
        · rw [if_neg q, if_neg (fun z => q z.2)]
      rw [e]
      cases b with
      | true => simpa only [if_true, Bool.true_and] using H
      | false => simpa only [Bool.false_eq_true, if_false, Bool.false_and] using H
    · rw [if_neg qa] at ho
      refine Ev.bind ho ?_
      rw [if_neg (fun z => qa z.1)]
      simp only [Bool.false_eq_true, if_false]
      exact Ev.now _
theorem allAsc_len {n : Nat} (hs : List S39) : ∀ ps, AllAsc n hs ps → ps.length = hs.length := by
  induction hs with
  | nil => intro ps h; cases ps with
    | nil => rfl
    | cons p ps => exact absurd h (by simp [AllAsc])
  | cons x hs ih => intro ps h; cases ps with
    | nil => exact absurd h (by simp [AllAsc])
    | cons p ps => simp only [List.length_cons]; rw [ih ps h.2]
theorem total_ev (gs : List S42) (g5 : gs.length ≤ 5) (hg : ∀ g ∈ gs, GR g) (hs : List S39) (hm : hs.length ≤ 1000) (hr : ∀ h ∈ hs, HR h) (ps : List (List Int)) (hp : ∀ p ∈ ps, p.length ≤ 1000) :
    Ev (fun k => snowplan_total.f k gs hs ps) (if AllAsc gs.length hs ps then (pv gs hs ps, pw gs ps, 0, true, Pow gs hs ps) else (0, 0, 0, false, false)) := by
  by_cases hl : ps.length = hs.length
  · have H := total_loop gs g5 hg hs hm hr ps hl hp hs.length 0 true 0 0 (by omega) (by omega) (by omega) (by omega) (by omega)
    rw [List.drop_zero, List.drop_zero] at H
    simp only [Int.zero_add, Bool.true_and] at H
    exact Ev.congr (f := fun k => snowplan_total.l0 k gs ps true hs (hs.length : Int) ((0 : Nat) : Int) 0 0 0) (fun k => by unfold snowplan_total.f; rw [if_pos (by omega)]; rfl) H
  · rw [if_neg (fun z => hl (allAsc_len hs ps z))]
    exact Ev.congr (f := fun _ => some (0, 0, 0, false, false)) (fun k => by unfold snowplan_total.f; rw [if_neg (by omega)]) (Ev.now _)
def worthS (gs : List S42) (hs : List S39) (ps : List (List Int)) : Int × Int × Bool := if AllAsc gs.length hs ps then (pv gs hs ps, pw gs ps, true) else (0, 0, false)
def validS (gs : List S42) (hs : List S39) (w : Int) (ps : List (List Int)) : Bool := decide (AllAsc gs.length hs ps) && Pow gs hs ps && decide (pw gs ps ≤ w)
theorem worth_ev {gs : List S42} {hs : List S39} (I : In gs hs) (ps : List (List Int)) (hp : ∀ p ∈ ps, p.length ≤ 1000) : Ev (fun k => snowplan_Worth.f k gs hs ps) (worthS gs hs ps) := by
  unfold snowplan_Worth.f worthS
  refine Ev.bind (total_ev gs I.g5 I.gr hs (by have := I.h3; omega) I.hr ps hp) ?_
  split
  · exact Ev.now _
  · exact Ev.now _
theorem valid_ev {gs : List S42} {hs : List S39} (I : In gs hs) (w : Int) (ps : List (List Int)) (hp : ∀ p ∈ ps, p.length ≤ 1000) : Ev (fun k => snowplan_Valid.f k gs hs w ps) (validS gs hs w ps) := by
  unfold snowplan_Valid.f validS
  refine Ev.bind (total_ev gs I.g5 I.gr hs (by have := I.h3; omega) I.hr ps hp) ?_
  by_cases q : AllAsc gs.length hs ps
  · rw [if_pos q, decide_eq_true q]
    simp only [if_true, Bool.true_and]
    cases Pow gs hs ps
    · simp only [Bool.false_eq_true, if_false, Bool.false_and]; exact Ev.now _
    · simp only [if_true, Bool.true_and]; exact Ev.now _
  · rw [if_neg q, decide_eq_false q]
    simp only [Bool.false_eq_true, if_false, Bool.false_and]; exact Ev.now _
theorem asc_bound {gs : List S42} {hs : List S39} (g5 : gs.length ≤ 5) (ps : List (List Int)) (h : AllAsc gs.length hs ps) (hg : ∀ g ∈ gs, GR g) (hr : ∀ h ∈ hs, HR h) : ∀ p ∈ ps, p.length ≤ 5 := by
  induction hs generalizing ps with
  | nil => cases ps with
    | nil => intro p hp; simp at hp
    | cons p ps => exact absurd h (by simp [AllAsc])
  | cons x hs ih => cases ps with
    | nil => exact absurd h (by simp [AllAsc])
    | cons q ps =>
      intro p hp
      rcases List.mem_cons.1 hp with rfl | hp
      · exact (sums hg (hr x (by simp)) g5 h.1).1
      · exact ih ps h.2 (fun y hy => hr y (by simp [hy])) p hp
def asI (l : List Nat) : List Int := l.map fun (s : Nat) => (s : Int)
def pickF (gs : List S42) (h : S39) (hs : List S39) (w : Int) (s : Nat) : Option (Int × List Nat) :=
  if sp gs (sel gs.length s) > h.f0 then none else if sw gs (sel gs.length s) > w then none else
      some (sv gs h (sel gs.length s) + (sch gs hs (w - sw gs (sel gs.length s))).1, s :: (sch gs hs (w - sw gs (sel gs.length s))).2)
theorem sch_cons (gs : List S42) (h : S39) (hs : List S39) (w : Int) : sch gs (h :: hs) w = pickS (pickF gs h hs w) (2 ^ gs.length) 0 (-1) [] := rfl
theorem pow_five {n : Nat} (hn : n ≤ 5) : 2 ^ n ≤ 32 := pow_le hn

theorem search_loop (gs : List S42) (g5 : gs.length ≤ 5) (hg : ∀ g ∈ gs, GR g) (h : S39) (hs : List S39) (hm : hs.length ≤ 2) (hh : HR h) (hr : ∀ x ∈ hs, HR x) (w : Int) (w0 : 0 ≤ w) (w1 : w ≤ 9223372036854775807)
    (IH : ∀ u : Int, 0 ≤ u → u ≤ 9223372036854775807 → Ev (fun k => snowplan_search.f k gs hs u) ((sch gs hs u).1, asI (sch gs hs u).2)) :
    ∀ (d j : Nat) (b : Int) (l : List Nat), j + d = 2 ^ gs.length → -1 ≤ b →
      Ev (fun k => snowplan_search.l0 k gs (h :: hs) w b (asI l) ((2 ^ gs.length : Nat) : Int) (j : Int)) ((pickS (pickF gs h hs w) d j b l).1, asI (pickS (pickF gs h hs w) d j b l).2) := by
  have p5 := pow_five g5
  intro d
  induction d with
  | zero =>
    intro j b l hj _
    exact Ev.step (f := fun _ => some (b, asI l)) (fun k => by simp only [snowplan_search.l0]; rw [if_neg (by omega)]) (Ev.now _)
  | succ d ih =>
    intro j b l hj hb
    have hlt : j < 2 ^ gs.length := by omega
    have ha := sel_asc gs.length j
    obtain ⟨s0, s1, s2, s3, s4, s5, s6⟩ := sums hg hh g5 ha
    simp only [pickS]
    -- the sums, then the join
    have key : ∀ c : Bool, c = decide (sp gs (sel gs.length j) > h.f0 ∨ sw gs (sel gs.length j) > w) →
        Ev (fun k => snowplan_search.j1 k gs (h :: hs) w b (asI l) (j : Int) ((2 ^ gs.length : Nat) : Int) (j : Int) c (sv gs h (sel gs.length j)) (sw gs (sel gs.length j)) (sp gs (sel gs.length j)))
          ((match pickF gs h hs w j with | none => pickS (pickF gs h hs w) d (j + 1) b l | some (v, s) => if v > b then pickS (pickF gs h hs w) d (j + 1) v s else pickS (pickF gs h hs w) d (j + 1) b l).1,
           asI (match pickF gs h hs w j with | none => pickS (pickF gs h hs w) d (j + 1) b l | some (v, s) => if v > b then pickS (pickF gs h hs w) d (j + 1) v s else pickS (pickF gs h hs w) d (j + 1) b l).2) := by
      intro c hc
      by_cases q : sp gs (sel gs.length j) > h.f0 ∨ sw gs (sel gs.length j) > w
      · have e : pickF gs h hs w j = none := by
          unfold pickF
          by_cases q1 : sp gs (sel gs.length j) > h.f0
          · rw [if_pos q1]
          · rw [if_neg q1, if_pos (q.resolve_left q1)]
        rw [e, hc, decide_eq_true q]
        refine Ev.step (f := fun k => snowplan_search.l0 k gs (h :: hs) w b (asI l) ((2 ^ gs.length : Nat) : Int) ((j + 1 : Nat) : Int)) (fun k => ?_) (ih (j + 1) b l (by omega) hb)
        simp only [snowplan_search.j1, if_true]
        rw [w64s j (2 ^ gs.length) hlt (by omega)]
      · have q1 : ¬ sp gs (sel gs.length j) > h.f0 := fun z => q (.inl z)
        have q2 : ¬ sw gs (sel gs.length j) > w := fun z => q (.inr z)
        have e : pickF gs h hs w j = some (sv gs h (sel gs.length j) + (sch gs hs (w - sw gs (sel gs.length j))).1, j :: (sch gs hs (w - sw gs (sel gs.length j))).2) := by
          unfold pickF; rw [if_neg q1, if_neg q2]
        rw [e, hc, decide_eq_false q]
        have hrec := IH (w - sw gs (sel gs.length j)) (by omega) (by omega)
        obtain ⟨r1, r2, r3, _⟩ := sch_spec gs g5 hg hs (w - sw gs (sel gs.length j)) hr (by omega)
        generalize sch gs hs (w - sw gs (sel gs.length j)) = R at *
        obtain ⟨rv, rl⟩ := R
        simp only [] at hrec r1 r2 r3 ⊢
        have hl : (asI rl).length = hs.length := by unfold asI; rw [List.length_map, r3]
        refine Ev.step (f := fun k => (snowplan_search.f k gs hs (w - sw gs (sel gs.length j))).bind fun t => if wrap64 (sv gs h (sel gs.length j) + t.1) > b then (if 1 + t.2.length < 17592186044416 then snowplan_search.l0 k gs (h :: hs) w (wrap64 (sv gs h (sel gs.length j) + t.1)) ((j : Int) :: t.2) ((2 ^ gs.length : Nat) : Int) ((j + 1 : Nat) : Int) else none) else snowplan_search.l0 k gs (h :: hs) w b (asI l) ((2 ^ gs.length : Nat) : Int) ((j + 1 : Nat) : Int)) (fun k => ?_) ?_
        · simp only [snowplan_search.j1]
          rw [if_neg (by decide), if_pos (by simp only [List.length_cons]; omega), w64s j (2 ^ gs.length) hlt (by omega), w64 (x := w - _) (by omega) (by omega)]
          rfl
        · refine Ev.bind hrec ?_
          simp only []
          rw [w64 (x := sv gs h (sel gs.length j) + rv) (by omega) (by omega), hl]
          by_cases qv : sv gs h (sel gs.length j) + rv > b
          · simp only [if_pos qv, if_pos (show 1 + hs.length < 17592186044416 by omega)]; exact ih (j + 1) _ (j :: rl) (by omega) (by omega)
          · simp only [if_neg qv]; exact ih (j + 1) b l (by omega) hb
    refine Ev.step (f := fun k => (snowplan_list.f k (j : Int)).bind fun t => (snowplan_of.f k gs h.f0 h.f1 t).bind fun r => if r.2.2.1 > h.f0 then snowplan_search.j1 k gs (h :: hs) w b (asI l) (j : Int) ((2 ^ gs.length : Nat) : Int) (j : Int) true r.1 r.2.1 r.2.2.1 else snowplan_search.j1 k gs (h :: hs) w b (asI l) (j : Int) ((2 ^ gs.length : Nat) : Int) (j : Int) (decide (r.2.1 > w)) r.1 r.2.1 r.2.2.1) (fun k => ?_) ?_
    · simp only [snowplan_search.l0]
      rw [if_pos (by omega), if_pos (by simp only [List.length_cons]; omega)]
      rfl
    · refine Ev.bind (list_ev g5 hlt) (Ev.bind (of_good gs h hg hh _ (by omega) ha) ?_)
      simp only []
      by_cases q1 : sp gs (sel gs.length j) > h.f0
      · simp only [if_pos q1]; exact key true (by rw [decide_eq_true (.inl q1)])
      · simp only [if_neg q1]
        refine key _ ?_
        by_cases q2 : sw gs (sel gs.length j) > w
        · rw [decide_eq_true q2, decide_eq_true (.inr q2)]
        · rw [decide_eq_false q2, decide_eq_false (fun z => z.elim q1 q2)]

theorem search_ev (gs : List S42) (g5 : gs.length ≤ 5) (hg : ∀ g ∈ gs, GR g) (hs : List S39) : ∀ w : Int, hs.length ≤ 3 → (∀ x ∈ hs, HR x) → 0 ≤ w → w ≤ 9223372036854775807 → Ev (fun k => snowplan_search.f k gs hs w) ((sch gs hs w).1, asI (sch gs hs w).2) := by
  induction hs with
  | nil =>
    intro w _ _ _ _
    exact Ev.step (f := fun _ => some (0, [])) (fun k => by simp only [snowplan_search.f]; rw [if_pos (by rfl)]) (Ev.now _)
  | cons h hs ih =>
    intro w h3 hr w0 w1
    simp only [List.length_cons] at h3
    have H := search_loop gs g5 hg h hs (by omega) (hr h (by simp)) (fun x hx => hr x (by simp [hx])) w w0 w1 (fun u u0 u1 => ih u (by omega) (fun x hx => hr x (by simp [hx])) u0 u1) (2 ^ gs.length) 0 (-1) [] (by omega) (by omega)
    rw [← sch_cons] at H
    refine Ev.step (f := fun k => snowplan_search.l0 k gs (h :: hs) w (-1) (asI []) ((2 ^ gs.length : Nat) : Int) ((0 : Nat) : Int)) (fun k => ?_) H
    simp only [snowplan_search.f]
    rw [if_neg (by simp only [List.length_cons]; omega), shl_w (by omega)]
    rfl
def grS (gs : List S42) (hs : List S39) (w : Int) : Int := if w < 0 then 0 else (sch gs hs w).1
def bestS (gs : List S42) (hs : List S39) (w : Int) : List (List Int) := if w < 0 then [] else (sch gs hs w).2.map (sel gs.length)
theorem greatest_ev {gs : List S42} {hs : List S39} (I : In gs hs) (w : Int) (w1 : w ≤ 9223372036854775807) : Ev (fun k => snowplan_Greatest.f k gs hs w) (grS gs hs w) := by
  unfold snowplan_Greatest.f grS
  by_cases q : w < 0
  · simp only [if_pos q]; exact Ev.now _
  · simp only [if_neg q]
    exact Ev.bind (search_ev gs I.g5 I.gr hs w I.h3 I.hr (by omega) w1) (Ev.now _)
theorem best_loop (n : Nat) (hn : n ≤ 5) (sets : List Nat) (hl : sets.length ≤ 1000) (hb : ∀ s ∈ sets, s < 2 ^ n) : ∀ (d i : Nat) (acc : List (List Int)), i + d = sets.length → acc.length ≤ i → Ev (fun k => snowplan_Best.l0 k acc (asI sets) (sets.length : Int) (i : Int)) (acc ++ (sets.drop i).map (sel n)) := by
  intro d
  have hal : (asI sets).length = sets.length := by unfold asI; rw [List.length_map]
  induction d with
  | zero =>
    intro i acc hi _
    rw [List.drop_of_length_le (by omega), List.map_nil, List.append_nil]
    exact Ev.step (f := fun _ => some acc) (fun k => by simp only [snowplan_Best.l0]; rw [if_neg (by omega)]) (Ev.now _)
  | succ d ih =>
    intro i acc hi ha
    have hlt : i < sets.length := by omega
    have hs := hb _ (getD_mem sets 0 i hlt)
    have e : rd (asI sets) (i : Int) = ((sets.getD i 0 : Nat) : Int) := by
      rw [rd_nat]; unfold asI
      rw [List.getD_eq_getElem?_getD, List.getElem?_map, List.getD_eq_getElem?_getD, List.getElem?_eq_getElem hlt]; rfl
    rw [getD_drop sets 0 i hlt, List.map_cons]
    have H := ih (i + 1) (acc ++ [sel n (sets.getD i 0)]) (by omega) (by simp; omega)
    rw [List.append_assoc] at H
    refine Ev.step (f := fun k => (snowplan_list.f k ((sets.getD i 0 : Nat) : Int)).bind fun t => if acc.length < 5864062014805 then snowplan_Best.l0 k (acc ++ [t]) (asI sets) (sets.length : Int) ((i + 1 : Nat) : Int) else none) (fun k => ?_) ?_
    · simp only [snowplan_Best.l0]
      rw [if_pos (by omega), if_pos (by omega), if_pos (by omega), e, w64s i sets.length hlt (by omega)]
    · refine Ev.bind (list_ev hn hs) ?_
      simp only [if_pos (show acc.length < 5864062014805 by omega)]
      exact H
theorem best_ev {gs : List S42} {hs : List S39} (I : In gs hs) (w : Int) (w1 : w ≤ 9223372036854775807) : Ev (fun k => snowplan_Best.f k gs hs w) (bestS gs hs w) := by
  unfold snowplan_Best.f bestS
  by_cases q : w < 0
  · simp only [if_pos q]; exact Ev.now _
  · simp only [if_neg q]
    refine Ev.bind (search_ev gs I.g5 I.gr hs w I.h3 I.hr (by omega) w1) ?_
    obtain ⟨_, _, r3, r4, _⟩ := sch_spec gs I.g5 I.gr hs w I.hr (by omega)
    have h3 := I.h3
    have H := best_loop gs.length I.g5 (sch gs hs w).2 (by omega) r4 (sch gs hs w).2.length 0 [] (by omega) (by simp)
    rw [List.drop_zero, List.nil_append] at H
    have e : ((asI (sch gs hs w).2).length : Int) = ((sch gs hs w).2.length : Int) := by unfold asI; rw [List.length_map]
    simp only [e]
    exact H

theorem best_facts {gs : List S42} {hs : List S39} (I : In gs hs) (w : Int) (w0 : 0 ≤ w) : (∀ p ∈ bestS gs hs w, p.length ≤ 1000) ∧ worthS gs hs (bestS gs hs w) = (grS gs hs w, pw gs (bestS gs hs w), true) ∧ validS gs hs w (bestS gs hs w) = true := by
  obtain ⟨r1, r2, r3, r4, r5, r6, r7⟩ := sch_spec gs I.g5 I.gr hs w I.hr w0
  obtain ⟨a1, a2, a3⟩ := ((feas_iff gs I.g5 I.gr hs w _ I.hr w0).1).1 r5
  unfold bestS grS
  rw [if_neg (by omega), if_neg (by omega)]
  refine ⟨fun p hp => ?_, ?_, ?_⟩
  · have := asc_bound I.g5 _ a1 I.gr I.hr p hp; omega
  · unfold worthS; rw [if_pos a1, r6]
  · unfold validS; rw [decide_eq_true a1, a2, decide_eq_true a3]; rfl
end Go.Proofs.Ytefinjjcbpdljaa.PB
