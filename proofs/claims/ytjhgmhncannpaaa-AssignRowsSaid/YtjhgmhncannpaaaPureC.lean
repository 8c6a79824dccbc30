/- The plain laws of chapter 08: what the printed functions compute, over whole numbers and lists alone. No conditions beyond those that each theorem states. -/
import Derived.Test.YtjhgmhncannpaaaPPxD
namespace Go.Proofs.Ytjhgmhncannpaaa.PP
open Go.RowKit Go.Proofs.YtjhgmhncannpaaaW.PrintWords Go.Proofs.YtjhgmhncannpaaaW.PrintLast Go.Proofs.YtjhgmhncannpaaaW.PrintMore
set_option linter.unusedVariables false
set_option linter.unusedSimpArgs false
/-! ### whole numbers, bits, lists -/
theorem w64 {x : Int} (h0 : -9223372036854775808 ≤ x) (h1 : x ≤ 9223372036854775807) : wrap64 x = x := by
  unfold wrap64; omega
theorem w64s (i n : Nat) (h : i < n) (hn : n ≤ 1000000000000) : wrap64 ((i : Int) + 1) = ((i + 1 : Nat) : Int) := by
  rw [w64 (by omega) (by omega)]; omega

theorem i64w (n : Int) (h0 : 0 ≤ n) (h1 : n < 2 ^ 62) : IntKind.i64.wrap n = n := by
  rw [IntKind.wrap_i64]; omega
theorem u64w {n : Int} (h0 : 0 ≤ n) (h1 : n < 1000000000) : IntKind.u64.wrap n = n := by
  have e : IntKind.u64.wrap n = n % 18446744073709551616 := by simp [IntKind.wrap, IntKind.bits, IntKind.signed]
  rw [e]; omega
theorem and_nat (a b : Nat) (ha : a < 2 ^ 62) (hb : b < 2 ^ 62) : Go.bits .and .i64 (a : Int) (b : Int) = ((a &&& b : Nat) : Int) := (bits_nat .i64 62 (by decide) i64w a b ha hb).1
theorem or_nat (a b : Nat) (ha : a < 2 ^ 62) (hb : b < 2 ^ 62) : Go.bits .or .i64 (a : Int) (b : Int) = ((a ||| b : Nat) : Int) := (bits_nat .i64 62 (by decide) i64w a b ha hb).2

theorem one_shl : ∀ c : Fin 21, shl .i64 1 ((c.1 : Nat) : Int) = ((1 <<< c.1 : Nat) : Int) := by decide +kernel
theorem shl_nat {c : Nat} (hc : c ≤ 20) : shl .i64 1 (c : Int) = ((1 <<< c : Nat) : Int) := one_shl ⟨c, by omega⟩
theorem shr_nat (u : Nat) {c : Nat} (hc : c ≤ 20) : shr .i64 (u : Int) (c : Int) = ((u >>> c : Nat) : Int) := by
  unfold shr
  have e : min ((c : Int)).toNat IntKind.i64.bits = c := by simp [IntKind.bits]; omega
  rw [e, Nat.shiftRight_eq_div_pow]
  push_cast
  rfl

theorem bit_small : ∀ u : Fin 256, ∀ c : Fin 9, ((u.1 >>> c.1) &&& 1) = if u.1.testBit c.1 then 1 else 0 := by decide +kernel
theorem add_small : ∀ u : Fin 256, ∀ c : Fin 8, u.1.testBit c.1 = false → u.1 + 1 <<< c.1 = u.1 ||| 1 <<< c.1 := by decide +kernel
theorem mod_small : ∀ u : Fin 256, ∀ c : Fin 9, (u.1 >>> c.1) % 2 = if u.1.testBit c.1 then 1 else 0 := by decide +kernel
theorem lt_small : ∀ u : Fin 256, ∀ c : Fin 8, u.1.testBit c.1 = false → u.1 < u.1 ||| 1 <<< c.1 := by decide +kernel

/-- Is column c free, as the program asks? -/
theorem ask {u c : Nat} (hu : u < 256) (hc : c ≤ 8) : Go.bits .and .i64 (shr .i64 (u : Int) (c : Int)) 1 = if u.testBit c then 1 else 0 := by
  have hlt : u >>> c < 2 ^ 62 := Nat.lt_of_le_of_lt (Nat.shiftRight_le u c) (by omega)
  rw [shr_nat u (by omega)]
  have e : Go.bits .and .i64 ((u >>> c : Nat) : Int) ((1 : Nat) : Int) = (((u >>> c) &&& 1 : Nat) : Int) := and_nat (u >>> c) 1 hlt (by decide)
  have b := bit_small ⟨u, hu⟩ ⟨c, by omega⟩
  simp only at b
  rw [show (1 : Int) = ((1 : Nat) : Int) from rfl, e, b]
  split <;> rfl
/-- .. and as the reference asks. -/
theorem ask_ref {u c : Nat} (hu : u < 256) (hc : c ≤ 8) : Int.tmod (shr .i64 (u : Int) (IntKind.u64.wrap (c : Int))) 2 = if u.testBit c then 1 else 0 := by
  rw [u64w (by omega) (by omega), shr_nat u (by omega)]
  have b := mod_small ⟨u, hu⟩ ⟨c, by omega⟩
  simp only at b
  rw [Int.tmod_eq_emod_of_nonneg (Int.natCast_nonneg _), show ((u >>> c : Nat) : Int) % 2 = (((u >>> c) % 2 : Nat) : Int) by omega, b]
  split <;> rfl
/-- Column c is taken. -/
theorem take {u c : Nat} (hu : u < 256) (hc : c < 8) : Go.bits .or .i64 (u : Int) (shl .i64 1 (c : Int)) = ((u ||| 1 <<< c : Nat) : Int) := by
  rw [shl_nat (by omega)]
  refine or_nat u (1 <<< c) (by omega) ?_
  rw [Nat.one_shiftLeft]
  exact Nat.pow_lt_pow_right (by decide) (by omega)
theorem take_ref {u c : Nat} (hu : u < 256) (hc : c < 8) (h : u.testBit c = false) : wrap64 ((u : Int) + shl .i64 1 (IntKind.u64.wrap (c : Int))) = ((u ||| 1 <<< c : Nat) : Int) := by
  rw [u64w (by omega) (by omega), shl_nat (by omega)]
  have a := add_small ⟨u, hu⟩ ⟨c, hc⟩ h
  simp only at a
  have l : u ||| 1 <<< c < 2 ^ 8 := Nat.or_lt_two_pow (by omega) (by rw [Nat.one_shiftLeft]; exact Nat.pow_lt_pow_right (by decide) hc)
  rw [w64 (by omega) (by omega)]; omega
theorem or_lt {u c w : Nat} (hu : u < 2 ^ w) (hc : c < w) : u ||| 1 <<< c < 2 ^ w :=
  Nat.or_lt_two_pow hu (by rw [Nat.one_shiftLeft]; exact Nat.pow_lt_pow_right (by decide) hc)
theorem pow_le {w : Nat} (h : w ≤ 8) : 2 ^ w ≤ 256 := Nat.pow_le_pow_right (by decide) h
theorem gt_or {u c : Nat} (hu : u < 256) (hc : c < 8) (h : u.testBit c = false) : u < u ||| 1 <<< c := lt_small ⟨u, hu⟩ ⟨c, hc⟩ h

/-- How many columns are taken. -/
def pc (u : Nat) : Nat := ((List.range 8).filter fun j => u.testBit j).length
theorem pc_set0 : ∀ u : Fin 256, ∀ c : Fin 8, u.1.testBit c.1 = false → pc (u.1 ||| 1 <<< c.1) = pc u.1 + 1 := by decide +kernel
theorem pc_set {u c : Nat} (hu : u < 256) (hc : c < 8) (h : u.testBit c = false) : pc (u ||| 1 <<< c) = pc u + 1 := pc_set0 ⟨u, hu⟩ ⟨c, hc⟩ h
theorem free0 : ∀ u : Fin 256, ∀ w : Fin 9, pc u.1 < w.1 → ∃ j : Fin 8, j.1 < w.1 ∧ u.1.testBit j.1 = false := by decide +kernel
theorem free {u w : Nat} (hu : u < 256) (hw : w ≤ 8) (h : pc u < w) : ∃ j, j < w ∧ u.testBit j = false := by
  obtain ⟨j, a, b⟩ := free0 ⟨u, hu⟩ ⟨w, by omega⟩ h
  exact ⟨j.1, a, b⟩
theorem ones0 : ∀ u : Fin 256, bits_OnesCount.f ((u.1 : Nat) : Int) = some ((pc u.1 : Nat) : Int) := by decide +kernel
theorem ones {u : Nat} (hu : u < 256) : bits_OnesCount.f (IntKind.u64.wrap (u : Int)) = some (pc u : Int) := by
  rw [u64w (by omega) (by omega)]; exact ones0 ⟨u, hu⟩

/-- The number of the bits of x, of which there are at most j. -/
def bs : Nat → Nat → Nat
  | 0, _ => 0
  | j + 1, x => x % 2 + bs j (x / 2)
theorem bs_pc0 : ∀ u : Fin 256, bs 8 u.1 = pc u.1 := by decide +kernel
theorem bs_zero (j : Nat) : bs j 0 = 0 := by induction j with | zero => rfl | succ j ih => simp [bs, ih]
theorem taken_loop (j : Nat) : ∀ (x n : Nat), x < 2 ^ j → j ≤ 8 → n + j ≤ 100 → Ev (fun k => skiarearef08_taken.l0 k (x : Int) (n : Int)) ((n + bs j x : Nat) : Int) := by
  induction j with
  | zero =>
    intro x n hx _ hn
    obtain rfl : x = 0 := by simp at hx; exact hx
    exact Ev.step (f := fun _ => some (n : Int)) (fun k => by simp only [skiarearef08_taken.l0]; rw [if_neg (by decide)]) (Ev.now _)
  | succ j ih =>
    intro x n hx hj hn
    by_cases h0 : x = 0
    · subst h0
      rw [bs_zero]
      exact Ev.step (f := fun _ => some (n : Int)) (fun k => by simp only [skiarearef08_taken.l0]; rw [if_neg (by decide)]) (Ev.now _)
    · have hx2 : x < 2 * 2 ^ j := by rw [Nat.pow_succ] at hx; omega
      have hp := pow_le (w := j + 1) hj
      have := ih (x / 2) (n + x % 2) (by omega) (by omega) (by omega)
      refine Ev.step (f := fun k => skiarearef08_taken.l0 k ((x / 2 : Nat) : Int) ((n + x % 2 : Nat) : Int)) (fun k => ?_) (by rw [bs, ← Nat.add_assoc]; exact this)
      simp only [skiarearef08_taken.l0]
      rw [if_pos (by omega)]
      have e1 : wrap64 (Int.tdiv (x : Int) 2) = ((x / 2 : Nat) : Int) := by
        rw [Int.tdiv_eq_ediv_of_nonneg (by omega), w64 (by omega) (by omega)]; omega
      have e2 : wrap64 ((n : Int) + wrap64 (Int.tmod (x : Int) 2)) = ((n + x % 2 : Nat) : Int) := by
        rw [Int.tmod_eq_emod_of_nonneg (by omega), w64 (x := (x : Int) % 2) (by omega) (by omega), w64 (by omega) (by omega)]; omega
      have e3 : wrap64 ((n : Int) + Int.tmod (x : Int) 2) = ((n + x % 2 : Nat) : Int) := by
        rw [Int.tmod_eq_emod_of_nonneg (by omega), w64 (by omega) (by omega)]; omega
      first | rw [e1, e3] | rw [e1, e2]
theorem taken_ev {u : Nat} (hu : u < 256) : Ev (fun k => skiarearef08_taken.f k (u : Int)) (pc u : Int) := by
  have h := taken_loop 8 u 0 (by omega) (by omega) (by omega)
  rw [bs_pc0 ⟨u, hu⟩, Nat.zero_add] at h
  exact h
theorem rd_nat (xs : List Int) (i : Nat) : rd xs (i : Int) = xs.getD i 0 := by simp [rd]
theorem rdL_nat (xs : List (List Int)) (i : Nat) : rd_L1 xs (i : Int) = xs.getD i [] := by simp [rd_L1]
/-! ### a loop that looks for the first fault -/
def anyFrom (P : Nat → Bool) : Nat → Nat → Bool
  | _, 0 => false
  | i, d + 1 => P i || anyFrom P (i + 1) d

theorem loop_any {α : Type} {g : Nat → Nat → Option α} {n : Nat} {P : Nat → Bool} {a b : α}
    (hs : ∀ k i, i < n → g (k + 1) i = if P i = true then some a else g k (i + 1)) (hn : Ev (fun k => g k n) b) :
    ∀ d i, i + d = n → Ev (fun k => g k i) (if anyFrom P i d = true then a else b) := by
  intro d
  induction d with
  | zero => intro i hi; obtain rfl : i = n := by omega
            exact hn
  | succ d ih =>
    intro i hi
    have h := ih (i + 1) (by omega)
    by_cases hp : P i = true
    · refine Ev.step (f := fun _ => some a) (fun k => by rw [hs k i (by omega), if_pos hp]) ?_
      have e : anyFrom P i (d + 1) = true := by simp [anyFrom, hp]
      rw [if_pos e]; exact Ev.now a
    · refine Ev.step (f := fun k => g k (i + 1)) (fun k => by rw [hs k i (by omega), if_neg hp]) ?_
      have e : anyFrom P i (d + 1) = anyFrom P (i + 1) d := by simp [anyFrom, hp]
      rw [e]; exact h

theorem anyFrom_list {α : Type} (p : α → Bool) (z : α) (xs : List α) : ∀ d i, i + d = xs.length → anyFrom (fun j => p (xs.getD j z)) i d = (xs.drop i).any p := by
  intro d
  induction d with
  | zero => intro i hi; rw [List.drop_of_length_le (by omega)]; rfl
  | succ d ih =>
    intro i hi
    have hlt : i < xs.length := by omega
    rw [List.drop_eq_getElem_cons hlt, List.any_cons, anyFrom, ih (i + 1) (by omega)]
    simp [List.getD_eq_getElem?_getD, List.getElem?_eq_getElem hlt]
theorem anyFrom_all {α : Type} (p : α → Bool) (z : α) (xs : List α) : anyFrom (fun j => p (xs.getD j z)) 0 xs.length = xs.any p := by
  rw [anyFrom_list p z xs xs.length 0 (by omega)]; simp

/-! ### Right -/
def longB (r : List Int) : Bool := decide (r.length > 8)
def formB (c : List (List Int)) (r : List Int) : Bool := decide (r.length ≠ (c.getD 0 []).length ∨ r.length < c.length)
def outB (x : Int) : Bool := decide (x < 0 ∨ x > 1000000)
def rangeB (r : List Int) : Bool := r.any outB
def rightS (c : List (List Int)) : Int :=
  if c.length > 8 then 4 else if c.any longB = true then 4 else if c.any (formB c) = true then 3 else if c.any rangeB = true then 2 else 0

theorem r3 (c : List (List Int)) (i : Nat) (row : List Int) (hr : row.length ≤ 8) {b : Int} (hb : Ev (fun k => assign_Right.l2 k c (c.length : Int) (wrap64 ((i : Int) + 1))) b) :
    Ev (fun k => assign_Right.l3 k c (c.length : Int) (i : Int) row (row.length : Int) 0) (if rangeB row = true then 2 else b) := by
  have h := loop_any (g := fun k j => assign_Right.l3 k c (c.length : Int) (i : Int) row (row.length : Int) ((j : Nat) : Int)) (n := row.length) (P := fun j => outB (row.getD j 0)) (a := 2) (b := b) ?_ ?_ row.length 0 (by omega)
  · rw [anyFrom_all outB 0 row] at h
    exact h
  · intro k j hj
    simp only [assign_Right.l3]
    rw [if_pos (by omega), if_pos (by omega), if_pos (by omega), w64s j row.length hj (by omega), rd_nat]
    unfold outB
    by_cases h1 : row.getD j 0 < 0
    · rw [if_pos h1, if_pos (by simp only [decide_eq_true_eq]; omega)]
    · rw [if_neg h1]
      by_cases h2 : row.getD j 0 > 1000000
      · rw [if_pos h2, if_pos (by simp only [decide_eq_true_eq]; omega)]
      · rw [if_neg h2, if_neg (by simp only [decide_eq_true_eq]; omega)]
  · exact Ev.step (f := fun k => assign_Right.l2 k c (c.length : Int) (wrap64 ((i : Int) + 1))) (fun k => by simp only [assign_Right.l3]; rw [if_neg (by omega)]) hb

theorem getD_mem {α : Type} (xs : List α) (z : α) (i : Nat) (h : i < xs.length) : xs.getD i z ∈ xs := by
  rw [List.getD_eq_getElem?_getD, List.getElem?_eq_getElem h]; exact List.getElem_mem h

theorem r2 (c : List (List Int)) (hc : c.length ≤ 8) (hl : ∀ r ∈ c, r.length ≤ 8) : ∀ d i, i + d = c.length →
    Ev (fun k => assign_Right.l2 k c (c.length : Int) (i : Int)) (if (c.drop i).any rangeB = true then 2 else 0) := by
  intro d
  induction d with
  | zero =>
    intro i hi
    rw [List.drop_of_length_le (by omega)]
    exact Ev.step (f := fun _ => some 0) (fun k => by simp only [assign_Right.l2]; rw [if_neg (by omega)]) (Ev.now 0)
  | succ d ih =>
    intro i hi
    have hlt : i < c.length := by omega
    have h := ih (i + 1) (by omega)
    rw [← w64s i c.length hlt (by omega)] at h
    have h3 := r3 c i (c.getD i []) (hl _ (getD_mem c [] i hlt)) h
    refine Ev.step (f := fun k => assign_Right.l3 k c (c.length : Int) (i : Int) (c.getD i []) ((c.getD i []).length : Int) 0) (fun k => ?_) ?_
    · simp only [assign_Right.l2]; rw [if_pos (by omega), if_pos (by omega), if_pos (by omega), rdL_nat]
    · rw [List.drop_eq_getElem_cons hlt, List.any_cons]
      have e : c.getD i [] = c[i] := by simp [List.getD_eq_getElem?_getD, List.getElem?_eq_getElem hlt]
      rw [e] at h3 ⊢
      by_cases hp : rangeB c[i] = true
      · rw [if_pos hp] at h3; rw [if_pos (by rw [hp]; rfl)]; exact h3
      · rw [if_neg hp] at h3
        have hf : rangeB c[i] = false := by simpa using hp
        rw [hf, Bool.false_or]; exact h3

theorem right_ev (c : List (List Int)) : Ev (fun k => assign_Right.f k c) (rightS c) := by
  unfold rightS
  by_cases hc : c.length > 8
  · rw [if_pos hc]
    exact Ev.congr (f := fun _ => some 4) (fun k => by unfold assign_Right.f; rw [if_pos (by omega)]) (Ev.now 4)
  rw [if_neg hc]
  refine Ev.congr (f := fun k => assign_Right.l0 k c c (c.length : Int) ((0 : Nat) : Int)) (fun k => by unfold assign_Right.f; rw [if_neg (by omega)]; rfl) ?_
  have s0 : ∀ b, Ev (fun k => assign_Right.l1 k c c (c.length : Int) 0) b → Ev (fun k => assign_Right.l0 k c c (c.length : Int) ((0 : Nat) : Int)) (if c.any longB = true then 4 else b) := by
    intro b hb
    have h := loop_any (g := fun k j => assign_Right.l0 k c c (c.length : Int) ((j : Nat) : Int)) (n := c.length) (P := fun j => longB (c.getD j [])) (a := 4) (b := b) ?_ ?_ c.length 0 (by omega)
    · rw [anyFrom_all longB [] c] at h; exact h
    · intro k j hj
      simp only [assign_Right.l0]
      rw [if_pos (by omega), if_pos (by omega), if_pos (by omega), w64s j c.length hj (by omega), rdL_nat]
      unfold longB
      by_cases h1 : (c.getD j []).length > 8
      · rw [if_pos (by omega), if_pos (by simp only [decide_eq_true_eq]; omega)]
      · rw [if_neg (by omega), if_neg (by simp only [decide_eq_true_eq]; omega)]
    · exact Ev.step (f := fun k => assign_Right.l1 k c c (c.length : Int) 0) (fun k => by simp only [assign_Right.l0]; rw [if_neg (by omega)]) hb
  by_cases h8 : c.any longB = true
  · rw [if_pos h8]
    -- the fault is met before the loop ends: no second loop is reached
    have key : ∀ d i, i + d = c.length → (c.drop i).any longB = true → Ev (fun k => assign_Right.l0 k c c (c.length : Int) (i : Int)) 4 := by
      intro d
      induction d with
      | zero => intro i hi ha; rw [List.drop_of_length_le (by omega)] at ha; simp at ha
      | succ d ih =>
        intro i hi ha
        have hlt : i < c.length := by omega
        rw [List.drop_eq_getElem_cons hlt, List.any_cons] at ha
        have e : c.getD i [] = c[i] := by simp [List.getD_eq_getElem?_getD, List.getElem?_eq_getElem hlt]
        by_cases hp : longB c[i] = true
        · refine Ev.step (f := fun _ => some 4) (fun k => ?_) (Ev.now 4)
          simp only [assign_Right.l0]
          rw [if_pos (by omega), if_pos (by omega), if_pos (by omega), rdL_nat, e, if_pos (by unfold longB at hp; simp only [decide_eq_true_eq] at hp; omega)]
        · have hf : longB c[i] = false := by simpa using hp
          rw [hf, Bool.false_or] at ha
          refine Ev.step (f := fun k => assign_Right.l0 k c c (c.length : Int) ((i + 1 : Nat) : Int)) (fun k => ?_) (ih (i + 1) (by omega) ha)
          simp only [assign_Right.l0]
          rw [if_pos (by omega), if_pos (by omega), if_pos (by omega), w64s i c.length hlt (by omega), rdL_nat, e, if_neg (by unfold longB at hf; simp only [decide_eq_false_iff_not] at hf; omega)]
    exact key c.length 0 (by omega) (by simpa using h8)
  rw [if_neg h8]
  have hl : ∀ r ∈ c, r.length ≤ 8 := by
    intro r hr
    have : ¬ longB r = true := fun z => h8 (List.any_eq_true.2 ⟨r, hr, z⟩)
    unfold longB at this; simp only [decide_eq_true_eq] at this; omega
  have h2 := r2 c (by omega) hl c.length 0 (by omega)
  rw [List.drop_zero] at h2
  have s1 : Ev (fun k => assign_Right.l1 k c c (c.length : Int) ((0 : Nat) : Int)) (if c.any (formB c) = true then 3 else (if c.any rangeB = true then 2 else 0)) := by
    have h := loop_any (g := fun k j => assign_Right.l1 k c c (c.length : Int) ((j : Nat) : Int)) (n := c.length) (P := fun j => formB c (c.getD j [])) (a := 3) (b := (if c.any rangeB = true then 2 else 0)) ?_ ?_ c.length 0 (by omega)
    · rw [anyFrom_all (formB c) [] c] at h; exact h
    · intro k j hj
      simp only [assign_Right.l1]
      rw [if_pos (by omega), if_pos (by omega), if_pos (by omega), if_pos (by omega), w64s j c.length hj (by omega), rdL_nat, show rd_L1 c 0 = c.getD 0 [] from rdL_nat c 0]
      unfold formB
      by_cases h1 : (c.getD j []).length = (c.getD 0 []).length
      · rw [if_pos (by omega)]
        by_cases h3 : (c.getD j []).length < c.length
        · rw [if_pos (by omega), if_pos (by simp only [decide_eq_true_eq]; omega)]
        · rw [if_neg (by omega), if_neg (by simp only [decide_eq_true_eq]; omega)]
      · rw [if_neg (by omega), if_pos (by simp only [decide_eq_true_eq]; omega)]
    · exact Ev.step (f := fun k => assign_Right.l2 k c (c.length : Int) 0) (fun k => by simp only [assign_Right.l1]; rw [if_neg (by omega)]) h2
  have h0 := s0 _ s1
  rw [if_neg h8] at h0
  exact h0

/-! ### the reference's Right -/
theorem q3 (c : List (List Int)) (i : Nat) (hi : i < c.length) (hc : c.length ≤ 8) (hr : (c.getD i []).length ≤ 8) {b : Int} (hb : Ev (fun k => skiarearef08_Right.l2 k c (wrap64 ((i : Int) + 1))) b) :
    Ev (fun k => skiarearef08_Right.l3 k c (i : Int) 0) (if rangeB (c.getD i []) = true then 2 else b) := by
  have h := loop_any (g := fun k j => skiarearef08_Right.l3 k c (i : Int) ((j : Nat) : Int)) (n := (c.getD i []).length) (P := fun j => outB ((c.getD i []).getD j 0)) (a := 2) (b := b) ?_ ?_ (c.getD i []).length 0 (by omega)
  · rw [anyFrom_all outB 0 (c.getD i [])] at h
    exact h
  · intro k j hj
    simp only [skiarearef08_Right.l3]
    rw [rdL_nat, if_pos (by omega), if_pos (by omega), if_pos (by omega), if_pos (by omega), w64s j _ hj (by omega), rd_nat]
    unfold outB
    by_cases h1 : (c.getD i []).getD j 0 < 0
    · rw [if_pos h1, if_pos (by simp only [decide_eq_true_eq]; omega)]
    · rw [if_neg h1]
      by_cases h2 : (c.getD i []).getD j 0 > 1000000
      · rw [if_pos h2, if_pos (by simp only [decide_eq_true_eq]; omega)]
      · rw [if_neg h2, if_neg (by simp only [decide_eq_true_eq]; omega)]
  · exact Ev.step (f := fun k => skiarearef08_Right.l2 k c (wrap64 ((i : Int) + 1))) (fun k => by simp only [skiarearef08_Right.l3]; rw [rdL_nat, if_pos (by omega), if_pos (by omega), if_neg (by omega)]) hb

theorem q2 (c : List (List Int)) (hc : c.length ≤ 8) (hl : ∀ r ∈ c, r.length ≤ 8) : ∀ d i, i + d = c.length →
    Ev (fun k => skiarearef08_Right.l2 k c (i : Int)) (if (c.drop i).any rangeB = true then 2 else 0) := by
  intro d
  induction d with
  | zero =>
    intro i hi
    rw [List.drop_of_length_le (by omega)]
    exact Ev.step (f := fun _ => some 0) (fun k => by simp only [skiarearef08_Right.l2]; rw [if_neg (by omega)]) (Ev.now 0)
  | succ d ih =>
    intro i hi
    have hlt : i < c.length := by omega
    have h := ih (i + 1) (by omega)
    rw [← w64s i c.length hlt (by omega)] at h
    have h3 := q3 c i hlt hc (hl _ (getD_mem c [] i hlt)) h
    refine Ev.step (f := fun k => skiarearef08_Right.l3 k c (i : Int) 0) (fun k => ?_) ?_
    · simp only [skiarearef08_Right.l2]; rw [if_pos (by omega)]
    · rw [List.drop_eq_getElem_cons hlt, List.any_cons]
      have e : c.getD i [] = c[i] := by simp [List.getD_eq_getElem?_getD, List.getElem?_eq_getElem hlt]
      rw [e] at h3
      by_cases hp : rangeB c[i] = true
      · rw [if_pos hp] at h3; rw [if_pos (by rw [hp]; rfl)]; exact h3
      · rw [if_neg hp] at h3
        have hf : rangeB c[i] = false := by simpa using hp
        rw [hf, Bool.false_or]; exact h3

theorem ref_right_ev (c : List (List Int)) : Ev (fun k => skiarearef08_Right.f k c) (rightS c) := by
  unfold rightS
  by_cases hc : c.length > 8
  · rw [if_pos hc]
    exact Ev.congr (f := fun _ => some 4) (fun k => by unfold skiarearef08_Right.f; rw [if_pos (by omega)]) (Ev.now 4)
  rw [if_neg hc]
  refine Ev.congr (f := fun k => skiarearef08_Right.l0 k c ((0 : Nat) : Int)) (fun k => by unfold skiarearef08_Right.f; rw [if_neg (by omega)]; rfl) ?_
  have st0 : ∀ k j, j < c.length → skiarearef08_Right.l0 (k + 1) c ((j : Nat) : Int) = if longB (c.getD j []) = true then some 4 else skiarearef08_Right.l0 k c ((j + 1 : Nat) : Int) := by
    intro k j hj
    simp only [skiarearef08_Right.l0]
    rw [if_pos (by omega), if_pos (by omega), w64s j c.length hj (by omega), rdL_nat]
    unfold longB
    by_cases h1 : (c.getD j []).length > 8
    · rw [if_pos (by omega), if_pos (by simp only [decide_eq_true_eq]; omega)]
    · rw [if_neg (by omega), if_neg (by simp only [decide_eq_true_eq]; omega)]
  by_cases h8 : c.any longB = true
  · rw [if_pos h8]
    have key : ∀ d i, i + d = c.length → (c.drop i).any longB = true → Ev (fun k => skiarearef08_Right.l0 k c (i : Int)) 4 := by
      intro d
      induction d with
      | zero => intro i hi ha; rw [List.drop_of_length_le (by omega)] at ha; simp at ha
      | succ d ih =>
        intro i hi ha
        have hlt : i < c.length := by omega
        rw [List.drop_eq_getElem_cons hlt, List.any_cons] at ha
        have e : c.getD i [] = c[i] := by simp [List.getD_eq_getElem?_getD, List.getElem?_eq_getElem hlt]
        by_cases hp : longB c[i] = true
        · exact Ev.step (f := fun _ => some 4) (fun k => by rw [st0 k i hlt, e, if_pos hp]) (Ev.now 4)
        · have hf : longB c[i] = false := by simpa using hp
          rw [hf, Bool.false_or] at ha
          exact Ev.step (f := fun k => skiarearef08_Right.l0 k c ((i + 1 : Nat) : Int)) (fun k => by rw [st0 k i hlt, e, if_neg hp]) (ih (i + 1) (by omega) ha)
    exact key c.length 0 (by omega) (by simpa using h8)
  rw [if_neg h8]
  have hl : ∀ r ∈ c, r.length ≤ 8 := by
    intro r hr
    have : ¬ longB r = true := fun z => h8 (List.any_eq_true.2 ⟨r, hr, z⟩)
    unfold longB at this; simp only [decide_eq_true_eq] at this; omega
  have h2 := q2 c (by omega) hl c.length 0 (by omega)
  rw [List.drop_zero] at h2
  have s1 : Ev (fun k => skiarearef08_Right.l1 k c ((0 : Nat) : Int)) (if c.any (formB c) = true then 3 else (if c.any rangeB = true then 2 else 0)) := by
    have h := loop_any (g := fun k j => skiarearef08_Right.l1 k c ((j : Nat) : Int)) (n := c.length) (P := fun j => formB c (c.getD j [])) (a := 3) (b := (if c.any rangeB = true then 2 else 0)) ?_ ?_ c.length 0 (by omega)
    · rw [anyFrom_all (formB c) [] c] at h; exact h
    · intro k j hj
      simp only [skiarearef08_Right.l1]
      rw [if_pos (by omega), if_pos (by omega), if_pos (by omega), w64s j c.length hj (by omega), rdL_nat, show rd_L1 c 0 = c.getD 0 [] from rdL_nat c 0]
      unfold formB
      by_cases h1 : (c.getD j []).length = (c.getD 0 []).length
      · rw [if_pos (by omega)]
        by_cases h3 : (c.getD j []).length < c.length
        · rw [if_pos (by omega), if_pos (by simp only [decide_eq_true_eq]; omega)]
        · rw [if_neg (by omega), if_neg (by simp only [decide_eq_true_eq]; omega)]
      · rw [if_neg (by omega), if_pos (by simp only [decide_eq_true_eq]; omega)]
    · exact Ev.step (f := fun k => skiarearef08_Right.l2 k c 0) (fun k => by simp only [skiarearef08_Right.l1]; rw [if_neg (by omega)]) h2
  have h := loop_any (g := fun k j => skiarearef08_Right.l0 k c ((j : Nat) : Int)) (n := c.length) (P := fun j => longB (c.getD j [])) (a := 4) st0 (Ev.step (f := fun k => skiarearef08_Right.l1 k c ((0 : Nat) : Int)) (fun k => by simp only [skiarearef08_Right.l0]; rw [if_neg (by omega)]; rfl) s1) c.length 0 (by omega)
  rw [anyFrom_all longB [] c, if_neg h8] at h
  exact h

/-! ### small, right -/
def smallB (c : List (List Int)) : Bool := if c.length > 20 then false else !(c.any fun r => decide (r.length > 20))
theorem small_ev (c : List (List Int)) : Ev (fun k => skiarealaw08_small.f k c) (smallB c) := by
  unfold smallB
  by_cases hc : c.length > 20
  · rw [if_pos hc]
    exact Ev.congr (f := fun _ => some false) (fun k => by unfold skiarealaw08_small.f; rw [if_pos (by omega)]) (Ev.now false)
  rw [if_neg hc]
  refine Ev.congr (f := fun k => skiarealaw08_small.l0 k c ((0 : Nat) : Int)) (fun k => by unfold skiarealaw08_small.f; rw [if_neg (by omega)]; rfl) ?_
  have h := loop_any (g := fun k j => skiarealaw08_small.l0 k c ((j : Nat) : Int)) (n := c.length) (P := fun j => (fun r : List Int => decide (r.length > 20)) (c.getD j [])) (a := false) (b := true) ?_ ?_ c.length 0 (by omega)
  · rw [anyFrom_all (fun r : List Int => decide (r.length > 20)) [] c] at h
    by_cases ha : (c.any fun r => decide (r.length > 20)) = true
    · rw [if_pos ha] at h; rw [ha]; exact h
    · rw [if_neg ha] at h
      have hf : (c.any fun r => decide (r.length > 20)) = false := by simpa using ha
      rw [hf]; exact h
  · intro k j hj
    simp only [skiarealaw08_small.l0]
    rw [if_pos (by omega), if_pos (by omega), w64s j c.length hj (by omega), rdL_nat]
    by_cases h1 : (c.getD j []).length > 20
    · rw [if_pos (by omega), if_pos (by simp only [decide_eq_true_eq]; omega)]
    · rw [if_neg (by omega), if_neg (by simp only [decide_eq_true_eq]; omega)]
  · exact Ev.step (f := fun _ => some true) (fun k => by simp only [skiarealaw08_small.l0]; rw [if_neg (by omega)]) (Ev.now true)

def okB (c : List (List Int)) : Bool := if smallB c = true then (rightS c == 0) else false
theorem ok_ev (c : List (List Int)) : Ev (fun k => skiarealaw08_right.f k c) (okB c) := by
  unfold okB
  unfold skiarealaw08_right.f
  refine Ev.bind (small_ev c) ?_
  by_cases h : smallB c = true
  · simp only [if_pos h]
    exact Ev.bind (ref_right_ev c) (Ev.now _)
  · simp only [if_neg h]
    exact Ev.now _
/-! ### the least cost, and the assignment that is found -/
/-- The least f j of the free columns j, from column j on, d of them; b is what was found before (negative: nothing). -/
def best1 (f : Nat → Int) (u : Nat) : Nat → Nat → Int → Int
  | 0, _, b => b
  | d + 1, j, b => best1 f u d (j + 1) (if u.testBit j = true then b else if b < 0 ∨ f j < b then f j else b)
def opt : List (List Int) → Nat → Int
  | [], _ => 0
  | r :: rs, u => best1 (fun j => r.getD j 0 + opt rs (u ||| 1 <<< j)) u r.length 0 (-1)
/-- The first free column whose f is v. -/
def pickj (f : Nat → Int) (u : Nat) (v : Int) : Nat → Nat → Option Nat
  | 0, _ => none
  | d + 1, j => if u.testBit j = false ∧ f j = v then some j else pickj f u v d (j + 1)
def pick : List (List Int) → Nat → List Int
  | [], _ => []
  | r :: rs, u => match pickj (fun j => r.getD j 0 + opt rs (u ||| 1 <<< j)) u (opt (r :: rs) u) r.length 0 with
    | some j => (j : Int) :: pick rs (u ||| 1 <<< j)
    | none => pick rs u
/-- An assignment of the rows to columns that are free. -/
def Vd : List (List Int) → Nat → List Int → Prop
  | [], _, [] => True
  | r :: rs, u, x :: xs => 0 ≤ x ∧ x < r.length ∧ u.testBit x.toNat = false ∧ Vd rs (u ||| 1 <<< x.toNat) xs
  | _, _, _ => False
def sm : List (List Int) → List Int → Int
  | r :: rs, x :: xs => r.getD x.toNat 0 + sm rs xs
  | _, _ => 0
def lexlt : List Int → List Int → Bool
  | x :: xs, y :: ys => if x = y then lexlt xs ys else decide (x < y)
  | _, _ => false

theorem best1_spec (f : Nat → Int) (u : Nat) (d : Nat) : ∀ (j : Nat) (b : Int), (b = -1 ∨ 0 ≤ b) → (∀ i, j ≤ i → i < j + d → u.testBit i = false → 0 ≤ f i) →
    (best1 f u d j b = -1 ∨ 0 ≤ best1 f u d j b) ∧ (best1 f u d j b = b ∨ ∃ i, j ≤ i ∧ i < j + d ∧ u.testBit i = false ∧ best1 f u d j b = f i) ∧
    (0 ≤ b → best1 f u d j b ≤ b) ∧ (∀ i, j ≤ i → i < j + d → u.testBit i = false → 0 ≤ best1 f u d j b ∧ best1 f u d j b ≤ f i) := by
  induction d with
  | zero => intro j b hb hf; exact ⟨hb, .inl rfl, fun _ => Int.le_refl _, fun i h1 h2 => by omega⟩
  | succ d ih =>
    intro j b hb hf
    simp only [best1]
    by_cases ht : u.testBit j = true
    · rw [if_pos ht]
      obtain ⟨p, q, r, s⟩ := ih (j + 1) b hb (fun i h1 h2 => hf i (by omega) (by omega))
      refine ⟨p, ?_, r, ?_⟩
      · rcases q with q | ⟨i, a1, a2, a3, a4⟩
        · exact .inl q
        · exact .inr ⟨i, by omega, by omega, a3, a4⟩
      · intro i h1 h2 h3
        by_cases e : i = j
        · subst e; rw [ht] at h3; cases h3
        · exact s i (by omega) (by omega) h3
    · rw [if_neg ht]
      have ht' : u.testBit j = false := by simpa using ht
      have fj := hf j (Nat.le_refl _) (by omega) ht'
      by_cases hb2 : b < 0 ∨ f j < b
      · rw [if_pos hb2]
        obtain ⟨p, q, r, s⟩ := ih (j + 1) (f j) (.inr fj) (fun i h1 h2 => hf i (by omega) (by omega))
        have r' := r fj
        refine ⟨p, ?_, fun h0 => by omega, ?_⟩
        · rcases q with q | ⟨i, a1, a2, a3, a4⟩
          · exact .inr ⟨j, Nat.le_refl _, by omega, ht', q⟩
          · exact .inr ⟨i, by omega, by omega, a3, a4⟩
        · intro i h1 h2 h3
          by_cases e : i = j
          · subst e
            refine ⟨?_, r'⟩
            rcases q with q | ⟨i, a1, a2, a3, a4⟩
            · omega
            · exact (s i a1 a2 a3).1
          · exact s i (by omega) (by omega) h3
      · rw [if_neg hb2]
        obtain ⟨p, q, r, s⟩ := ih (j + 1) b hb (fun i h1 h2 => hf i (by omega) (by omega))
        have r' := r (by omega)
        refine ⟨p, ?_, r, ?_⟩
        · rcases q with q | ⟨i, a1, a2, a3, a4⟩
          · exact .inl q
          · exact .inr ⟨i, by omega, by omega, a3, a4⟩
        · intro i h1 h2 h3
          by_cases e : i = j
          · subst e
            refine ⟨?_, by omega⟩
            rcases q with q | ⟨i, a1, a2, a3, a4⟩
            · omega
            · exact (s i a1 a2 a3).1
          · exact s i (by omega) (by omega) h3

theorem best1_lo (f : Nat → Int) (u : Nat) (L H : Int) (d : Nat) : ∀ (j : Nat) (b : Int), L ≤ b → b ≤ H → (∀ i, L ≤ f i ∧ f i ≤ H) → L ≤ best1 f u d j b ∧ best1 f u d j b ≤ H := by
  induction d with
  | zero => intro j b h1 h2 _; exact ⟨h1, h2⟩
  | succ d ih =>
    intro j b h1 h2 hf
    simp only [best1]
    have := hf j
    split
    · exact ih _ _ h1 h2 hf
    · split
      · exact ih _ _ (by omega) (by omega) hf
      · exact ih _ _ h1 h2 hf

def Cell (r : List Int) : Prop := ∀ x ∈ r, 0 ≤ x ∧ x ≤ 1000000
theorem cell_at {r : List Int} (h : Cell r) (j : Nat) : 0 ≤ r.getD j 0 ∧ r.getD j 0 ≤ 1000000 := by
  by_cases hj : j < r.length
  · exact h _ (getD_mem r 0 j hj)
  · rw [List.getD_eq_getElem?_getD, List.getElem?_eq_none (by omega)]; simp

theorem opt_bd (rs : List (List Int)) : ∀ (u : Nat), (∀ r ∈ rs, Cell r) → -1 - (rs.length : Int) ≤ opt rs u ∧ opt rs u ≤ 1000000 * (rs.length : Int) := by
  induction rs with
  | nil => intro u _; simp [opt]
  | cons r rs ih =>
    intro u h
    simp only [opt, List.length_cons]
    refine best1_lo _ u _ _ r.length 0 (-1) (by omega) (by omega) (fun i => ?_)
    have a := cell_at (h r (by simp)) i
    have b := ih (u ||| 1 <<< i) (fun x hx => h x (by simp [hx]))
    omega

/-- Rows of w columns with cells in their range, and room for them. -/
structure Room (rs : List (List Int)) (u w : Nat) : Prop where
  wide : ∀ r ∈ rs, r.length = w
  cell : ∀ r ∈ rs, Cell r
  w8 : w ≤ 8
  lt : u < 2 ^ w
  room : pc u + rs.length ≤ w
theorem Room.lt256 {rs : List (List Int)} {u w : Nat} (h : Room rs u w) : u < 256 := Nat.lt_of_lt_of_le h.lt (pow_le h.w8)
theorem Room.next {r : List Int} {rs : List (List Int)} {u w : Nat} (h : Room (r :: rs) u w) {j : Nat} (hj : j < w) (hf : u.testBit j = false) : Room rs (u ||| 1 <<< j) w where
  wide := fun x hx => h.wide x (by simp [hx])
  cell := fun x hx => h.cell x (by simp [hx])
  w8 := h.w8
  lt := or_lt h.lt hj
  room := by have := h.room; have := h.w8; rw [pc_set h.lt256 (by omega) hf]; simp only [List.length_cons] at *; omega

theorem opt_spec (rs : List (List Int)) : ∀ (u w : Nat), Room rs u w →
    0 ≤ opt rs u ∧ Vd rs u (pick rs u) ∧ sm rs (pick rs u) = opt rs u ∧ (∀ p, Vd rs u p → opt rs u ≤ sm rs p ∧ (sm rs p = opt rs u → lexlt p (pick rs u) = false)) := by
  induction rs with
  | nil =>
    intro u w _
    refine ⟨Int.le_refl _, trivial, rfl, fun p hp => ?_⟩
    cases p with
    | nil => exact ⟨Int.le_refl _, fun _ => rfl⟩
    | cons x xs => exact absurd hp (by simp [Vd])
  | cons r rs ih =>
    intro u w R
    have hw := R.wide r (by simp)
    have h8 := R.w8
    obtain ⟨j0, hj0, hf0⟩ := free R.lt256 R.w8 (by have := R.room; simp only [List.length_cons] at this; omega)
    generalize hF : (fun j => r.getD j 0 + opt rs (u ||| 1 <<< j)) = F
    have hF' : ∀ j, F j = r.getD j 0 + opt rs (u ||| 1 <<< j) := fun j => by rw [← hF]
    have hpos : ∀ i, 0 ≤ i → i < 0 + r.length → u.testBit i = false → 0 ≤ F i := by
      intro i _ h2 h3
      have a := cell_at (R.cell r (by simp)) i
      have b := (ih _ w (R.next (j := i) (by omega) h3)).1
      rw [hF']; omega
    obtain ⟨p1, p2, _, p4⟩ := best1_spec F u r.length 0 (-1) (.inl rfl) hpos
    have eo : opt (r :: rs) u = best1 F u r.length 0 (-1) := by rw [← hF]; rfl
    rw [← eo] at p1 p2 p4
    have hopt : 0 ≤ opt (r :: rs) u := (p4 j0 (Nat.zero_le _) (by omega) hf0).1
    have hex : ∃ i, i < r.length ∧ u.testBit i = false ∧ opt (r :: rs) u = F i := by
      rcases p2 with q | ⟨i, _, a2, a3, a4⟩
      · omega
      · exact ⟨i, by omega, a3, a4⟩
    -- the first such column
    have pj : ∀ d j, j + d = r.length → (∃ i, j ≤ i ∧ i < r.length ∧ u.testBit i = false ∧ F i = opt (r :: rs) u) →
        ∃ i, pickj F u (opt (r :: rs) u) d j = some i ∧ j ≤ i ∧ i < r.length ∧ u.testBit i = false ∧ F i = opt (r :: rs) u ∧ ∀ i', j ≤ i' → i' < i → u.testBit i' = false → F i' ≠ opt (r :: rs) u := by
      intro d
      induction d with
      | zero => intro j hj ⟨i, a, b, _⟩; omega
      | succ d ihd =>
        intro j hj ⟨i, a, b, c, e⟩
        by_cases hc : u.testBit j = false ∧ F j = opt (r :: rs) u
        · exact ⟨j, by simp only [pickj]; rw [if_pos hc], Nat.le_refl _, by omega, hc.1, hc.2, fun i' h1 h2 => by omega⟩
        · have hij : i ≠ j := fun z => hc (z ▸ ⟨c, e⟩)
          obtain ⟨m, m1, m2, m3, m4, m5, m6⟩ := ihd (j + 1) (by omega) ⟨i, by omega, b, c, e⟩
          refine ⟨m, by simp only [pickj]; rw [if_neg hc]; exact m1, by omega, m3, m4, m5, fun i' h1 h2 h3 h4 => ?_⟩
          by_cases z : i' = j
          · subst z; exact hc ⟨h3, h4⟩
          · exact m6 i' (by omega) h2 h3 h4
    obtain ⟨i0, q1, q2, q3⟩ := hex
    obtain ⟨j, e1, _, e3, e4, e5, e6⟩ := pj r.length 0 (by omega) ⟨i0, Nat.zero_le _, q1, q2, q3.symm⟩
    obtain ⟨n0, n1, n2, n3⟩ := ih _ w (R.next (j := j) (by omega) e4)
    have ep : pick (r :: rs) u = (j : Int) :: pick rs (u ||| 1 <<< j) := by
      simp only [pick]; rw [hF, e1]
    refine ⟨hopt, ?_, ?_, ?_⟩
    · rw [ep]
      exact ⟨by omega, by omega, by simpa using e4, by simpa using n1⟩
    · rw [ep]
      show r.getD ((j : Int)).toNat 0 + sm rs (pick rs (u ||| 1 <<< j)) = _
      rw [n2, Int.toNat_natCast, ← hF', e5]
    · intro p hp
      cases p with
      | nil => exact absurd hp (by simp [Vd])
      | cons x xs =>
        obtain ⟨v1, v2, v3, v4⟩ := hp
        obtain ⟨x, rfl⟩ : ∃ n : Nat, x = n := ⟨x.toNat, by omega⟩
        rw [Int.toNat_natCast] at v3 v4
        have hx : x < r.length := by omega
        obtain ⟨m0, m1, m2, m3⟩ := ih _ w (R.next (j := x) (by omega) v3)
        obtain ⟨l1, l2⟩ := m3 xs v4
        have hle := (p4 x (Nat.zero_le _) (by omega) v3).2
        have hs : sm (r :: rs) ((x : Int) :: xs) = r.getD x 0 + sm rs xs := by simp [sm]
        have hFx := hF' x
        refine ⟨by omega, fun he => ?_⟩
        rw [ep]
        simp only [lexlt]
        have hFe : F x = opt (r :: rs) u := by omega
        by_cases z : (x : Int) = (j : Int)
        · rw [if_pos z]
          obtain rfl : x = j := by omega
          exact l2 (by omega)
        · rw [if_neg z]
          have : ¬ x < j := fun h => e6 x (Nat.zero_le _) h v3 hFe
          simp only [decide_eq_false_iff_not]; omega

theorem Vd_len (rs : List (List Int)) : ∀ (u : Nat) (p : List Int), Vd rs u p → p.length = rs.length := by
  induction rs with
  | nil => intro u p h; cases p with
    | nil => rfl
    | cons x xs => exact absurd h (by simp [Vd])
  | cons r rs ih => intro u p h; cases p with
    | nil => exact absurd h (by simp [Vd])
    | cons x xs => simp only [List.length_cons]; rw [ih _ _ h.2.2.2]
/-! ### Total -/
def tot : List (List Int) → List Int → Nat → Int → Int × Bool
  | r :: rs, x :: xs, u, s => if x < 0 ∨ x ≥ r.length ∨ u.testBit x.toNat = true then (0, false) else tot rs xs (u ||| 1 <<< x.toNat) (s + r.getD x.toNat 0)
  | _, _, _, s => (s, true)
def totalS (c : List (List Int)) (p : List Int) : Int × Bool := if p.length = c.length then tot c p 0 0 else (0, false)

theorem tot_vd (c : List (List Int)) : ∀ (p : List Int) (u : Nat) (s : Int), p.length = c.length → Vd c u p → tot c p u s = (s + sm c p, true) := by
  induction c with
  | nil => intro p u s hl _; cases p with
    | nil => simp [tot, sm]
    | cons x xs => simp at hl
  | cons r rs ih =>
    intro p u s hl hv
    cases p with
    | nil => simp at hl
    | cons x xs =>
      obtain ⟨v1, v2, v3, v4⟩ := hv
      simp only [tot]
      rw [if_neg (by rw [v3]; simp; omega), ih xs _ _ (by simpa using hl) v4]
      simp only [sm, Int.add_assoc]
theorem tot_not (c : List (List Int)) : ∀ (p : List Int) (u : Nat) (s : Int), p.length = c.length → ¬ Vd c u p → tot c p u s = (0, false) := by
  induction c with
  | nil => intro p u s hl hv; cases p with
    | nil => exact absurd trivial hv
    | cons x xs => simp at hl
  | cons r rs ih =>
    intro p u s hl hv
    cases p with
    | nil => simp at hl
    | cons x xs =>
      simp only [tot]
      by_cases h : x < 0 ∨ x ≥ r.length ∨ u.testBit x.toNat = true
      · rw [if_pos h]
      · rw [if_neg h]
        refine ih xs _ _ (by simpa using hl) (fun z => hv ⟨by omega, by omega, ?_, z⟩)
        have : ¬ u.testBit x.toNat = true := fun y => h (.inr (.inr y))
        simpa using this

/-- A right matrix: at most 8 rows of w columns each. -/
structure RM (c : List (List Int)) (w : Nat) : Prop where
  wide : ∀ r ∈ c, r.length = w
  cell : ∀ r ∈ c, Cell r
  w8 : w ≤ 8
  room : c.length ≤ w
theorem RM.start {c : List (List Int)} {w : Nat} (h : RM c w) : Room c 0 w where
  wide := h.wide
  cell := h.cell
  w8 := h.w8
  lt := Nat.pow_pos (by decide)
  room := by rw [show pc 0 = 0 from by decide]; have := h.room; omega
theorem RM.at {c : List (List Int)} {w : Nat} (h : RM c w) {i : Nat} (hi : i < c.length) : (c.getD i []).length = w := h.wide _ (getD_mem c [] i hi)
theorem RM.cells {c : List (List Int)} {w : Nat} (h : RM c w) {i : Nat} (hi : i < c.length) : Cell (c.getD i []) := h.cell _ (getD_mem c [] i hi)

theorem rm_of (c : List (List Int)) (h : rightS c = 0) : RM c (if c.length = 0 then 0 else (c.getD 0 []).length) := by
  unfold rightS at h
  by_cases h1 : c.length > 8
  · rw [if_pos h1] at h; cases h
  rw [if_neg h1] at h
  by_cases h2 : c.any longB = true
  · rw [if_pos h2] at h; cases h
  rw [if_neg h2] at h
  by_cases h3 : c.any (formB c) = true
  · rw [if_pos h3] at h; cases h
  rw [if_neg h3] at h
  by_cases h4 : c.any rangeB = true
  · rw [if_pos h4] at h; cases h
  have a2 : ∀ r ∈ c, r.length ≤ 8 := fun r hr => by
    have : ¬ longB r = true := fun z => h2 (List.any_eq_true.2 ⟨r, hr, z⟩)
    unfold longB at this; simp only [decide_eq_true_eq] at this; omega
  have a3 : ∀ r ∈ c, r.length = (c.getD 0 []).length ∧ c.length ≤ r.length := fun r hr => by
    have : ¬ formB c r = true := fun z => h3 (List.any_eq_true.2 ⟨r, hr, z⟩)
    unfold formB at this; simp only [decide_eq_true_eq] at this; omega
  have a4 : ∀ r ∈ c, Cell r := fun r hr x hx => by
    have : ¬ rangeB r = true := fun z => h4 (List.any_eq_true.2 ⟨r, hr, z⟩)
    have : ¬ outB x = true := fun z => this (List.any_eq_true.2 ⟨x, hx, z⟩)
    unfold outB at this; simp only [decide_eq_true_eq] at this; omega
  by_cases h0 : c.length = 0
  · rw [if_pos h0]
    have : c = [] := List.length_eq_zero_iff.1 h0
    subst this
    exact ⟨fun r hr => by simp at hr, fun r hr => by simp at hr, by omega, by simp⟩
  · rw [if_neg h0]
    have m0 := getD_mem c [] 0 (by omega)
    exact ⟨fun r hr => (a3 r hr).1, a4, a2 _ m0, (a3 _ m0).2⟩
theorem right_of {c : List (List Int)} {w : Nat} (h : RM c w) : rightS c = 0 := by
  have r := h.room
  have w8 := h.w8
  unfold rightS
  rw [if_neg (by omega), if_neg, if_neg, if_neg]
  · intro z
    obtain ⟨r, hr, z⟩ := List.any_eq_true.1 z
    obtain ⟨x, hx, z⟩ := List.any_eq_true.1 z
    have := h.cell r hr x hx
    unfold outB at z; simp only [decide_eq_true_eq] at z; omega
  · intro z
    obtain ⟨r, hr, z⟩ := List.any_eq_true.1 z
    have := h.wide r hr
    have := h.at (i := 0) (by have := List.length_pos_of_mem hr; omega)
    unfold formB at z; simp only [decide_eq_true_eq] at z; omega
  · intro z
    obtain ⟨r, hr, z⟩ := List.any_eq_true.1 z
    have := h.wide r hr
    unfold longB at z; simp only [decide_eq_true_eq] at z; omega

theorem getD_drop {α : Type} (xs : List α) (z : α) (i : Nat) (h : i < xs.length) : xs.drop i = xs.getD i z :: xs.drop (i + 1) := by
  rw [List.drop_eq_getElem_cons h, List.getD_eq_getElem?_getD, List.getElem?_eq_getElem h]; rfl

theorem total_loop (c : List (List Int)) (w : Nat) (R : RM c w) (p : List Int) (hl : p.length = c.length) : ∀ d i (u : Nat) (s : Int), i + d = c.length → u < 2 ^ w → 0 ≤ s → s ≤ 1000000 * (i : Int) →
    Ev (fun k => assign_Total.l0 k c s (u : Int) p (p.length : Int) (i : Int)) (tot (c.drop i) (p.drop i) u s) := by
  intro d
  have h8 := R.w8
  have hr := R.room
  induction d with
  | zero =>
    intro i u s hi hu _ _
    rw [List.drop_of_length_le (by omega), List.drop_of_length_le (by omega)]
    exact Ev.step (f := fun _ => some (s, true)) (fun k => by simp only [assign_Total.l0]; rw [if_neg (by omega)]) (Ev.now _)
  | succ d ih =>
    intro i u s hi hu h0 h1
    have hic : i < c.length := by omega
    have hw := R.at hic
    have hu2 : u < 256 := Nat.lt_of_lt_of_le hu (pow_le h8)
    rw [getD_drop c [] i hic, getD_drop p 0 i (by omega)]
    simp only [tot]
    have st : ∀ k, assign_Total.l0 (k + 1) c s (u : Int) p (p.length : Int) (i : Int) =
        if p.getD i 0 < 0 then some (0, false) else if p.getD i 0 ≥ ((c.getD i []).length : Int) then some (0, false) else
        if (if 0 ≤ p.getD i 0 then Go.bits .and .i64 (shr .i64 (u : Int) (p.getD i 0)) 1 else 0) = 1 then some (0, false) else
        assign_Total.l0 k c (wrap64 (s + (c.getD i []).getD (p.getD i 0).toNat 0)) (Go.bits .or .i64 (u : Int) (shl .i64 1 (p.getD i 0))) p (p.length : Int) (wrap64 ((i : Int) + 1)) := by
      intro k
      simp only [assign_Total.l0]
      rw [if_pos (by omega), if_pos (by omega), if_pos (by omega), rd_nat]
      by_cases q1 : p.getD i 0 < 0
      · rw [if_pos q1, if_pos q1]
      rw [if_neg q1, if_neg q1, if_pos (c := ((i : Int) < (c.length : Int))) (by omega), rdL_nat]
      by_cases q2 : p.getD i 0 ≥ ((c.getD i []).length : Int)
      · rw [if_pos q2, if_pos q2]
      have q0 : 0 ≤ p.getD i 0 := by omega
      rw [if_neg q2, if_neg q2, if_pos q0, if_pos q0]
      by_cases q3 : Go.bits .and .i64 (shr .i64 (u : Int) (p.getD i 0)) 1 = 1
      · rw [if_pos q3, if_pos q3]
      · rw [if_neg q3, if_neg q3, if_pos (by omega)]; rfl
    by_cases q1 : p.getD i 0 < 0
    · rw [if_pos (.inl q1)]
      exact Ev.step (f := fun _ => some (0, false)) (fun k => by rw [st, if_pos q1]) (Ev.now _)
    by_cases q2 : p.getD i 0 ≥ ((c.getD i []).length : Int)
    · rw [if_pos (.inr (.inl q2))]
      exact Ev.step (f := fun _ => some (0, false)) (fun k => by rw [st, if_neg q1, if_pos q2]) (Ev.now _)
    generalize hx : p.getD i 0 = x at *
    obtain ⟨x, rfl⟩ : ∃ n : Nat, x = n := ⟨x.toNat, by omega⟩
    have hxw : x < w := by omega
    rw [Int.toNat_natCast] at *
    have ha := ask hu2 (c := x) (by omega)
    by_cases q3 : u.testBit x = true
    · rw [if_pos (.inr (.inr q3))]
      rw [q3, if_pos rfl] at ha
      exact Ev.step (f := fun _ => some (0, false)) (fun k => by rw [st, if_neg q1, if_neg q2, if_pos (c := (0 : Int) ≤ (x : Int)) (by omega), ha, if_pos rfl]) (Ev.now _)
    · rw [if_neg (by rintro (z | z | z) <;> first | omega | exact q3 z)]
      rw [if_neg q3] at ha
      have hc := cell_at (R.cells hic) x
      have hs : wrap64 (s + (c.getD i []).getD x 0) = s + (c.getD i []).getD x 0 := w64 (by omega) (by omega)
      refine Ev.step (f := fun k => assign_Total.l0 k c (s + (c.getD i []).getD x 0) ((u ||| 1 <<< x : Nat) : Int) p (p.length : Int) ((i + 1 : Nat) : Int)) (fun k => ?_) (ih (i + 1) _ _ (by omega) (or_lt hu hxw) (by omega) (by omega))
      rw [st, if_neg q1, if_neg q2, if_pos (c := (0 : Int) ≤ (x : Int)) (by omega), ha, if_neg (by decide), hs, take hu2 (by omega), w64s i c.length hic (by omega)]

theorem total_ev {c : List (List Int)} {w : Nat} (R : RM c w) (p : List Int) : Ev (fun k => assign_Total.f k c p) (totalS c p) := by
  unfold totalS
  by_cases h : p.length = c.length
  · rw [if_pos h]
    have := total_loop c w R p h c.length 0 0 0 (by omega) (Nat.pow_pos (by decide)) (by omega) (by omega)
    exact Ev.congr (f := fun k => assign_Total.l0 k c 0 ((0 : Nat) : Int) p (p.length : Int) ((0 : Nat) : Int)) (fun k => by unfold assign_Total.f; rw [if_pos (by omega)]; rfl) (by simpa using this)
  · rw [if_neg h]
    exact Ev.congr (f := fun _ => some (0, false)) (fun k => by unfold assign_Total.f; rw [if_neg (by omega)]) (Ev.now _)

/-! ### the reference's Total -/
theorem columns_eq (c : List (List Int)) (h : 0 < c.length) : skiarearef08_columns.f c = some ((c.getD 0 []).length : Int) := by
  unfold skiarearef08_columns.f; rw [if_neg (by omega), if_pos (by omega), show rd_L1 c 0 = c.getD 0 [] from rdL_nat c 0]
theorem columns_rm {c : List (List Int)} {w : Nat} (R : RM c w) (h : 0 < c.length) : skiarearef08_columns.f c = some (w : Int) := by
  rw [columns_eq c h, R.at h]

/-- u is the set of the columns that the first i elements of p name. -/
def Names (p : List Int) (i : Nat) (u : Nat) : Prop := ∀ x : Nat, u.testBit x = true ↔ ∃ j, j < i ∧ p.getD j 0 = (x : Int)
theorem Names.next {p : List Int} {i u x : Nat} (h : Names p i u) (e : p.getD i 0 = (x : Int)) : Names p (i + 1) (u ||| 1 <<< x) := by
  intro y
  rw [Nat.testBit_or, Nat.one_shiftLeft, Nat.testBit_two_pow, Bool.or_eq_true, h y]
  simp only [decide_eq_true_eq]
  constructor
  · rintro (⟨j, a, b⟩ | rfl)
    · exact ⟨j, by omega, b⟩
    · exact ⟨i, by omega, e⟩
  · rintro ⟨j, a, b⟩
    by_cases z : j = i
    · subst z; right; omega
    · exact .inl ⟨j, by omega, b⟩

theorem ref_total_loop (c : List (List Int)) (w : Nat) (R : RM c w) (p : List Int) (hl : p.length = c.length) : ∀ d i (u : Nat) (s : Int), i + d = c.length → u < 2 ^ w → Names p i u → 0 ≤ s → s ≤ 1000000 * (i : Int) →
    Ev (fun k => skiarearef08_Total.l0 k c p s (i : Int)) (tot (c.drop i) (p.drop i) u s) := by
  intro d
  have h8 := R.w8
  have hr := R.room
  induction d with
  | zero =>
    intro i u s hi hu _ _ _
    rw [List.drop_of_length_le (by omega), List.drop_of_length_le (by omega)]
    exact Ev.step (f := fun _ => some (s, true)) (fun k => by simp only [skiarearef08_Total.l0]; rw [if_neg (by omega)]) (Ev.now _)
  | succ d ih =>
    intro i u s hi hu hn h0 h1
    have hic : i < c.length := by omega
    have hw := R.at hic
    have hu2 : u < 256 := Nat.lt_of_lt_of_le hu (pow_le h8)
    have hcol := columns_rm R (by omega)
    rw [getD_drop c [] i hic, getD_drop p 0 i (by omega)]
    simp only [tot]
    -- a column out of the matrix
    have bad : (p.getD i 0 < 0 ∨ p.getD i 0 ≥ (w : Int)) → Ev (fun k => skiarearef08_Total.l0 k c p s (i : Int)) (0, false) := by
      intro hb
      refine Ev.step (f := fun k => skiarearef08_Total.j1 k c p s (i : Int) true) (fun k => ?_) (Ev.step (f := fun _ => some (0, false)) (fun k => by simp only [skiarearef08_Total.j1, if_true]) (Ev.now _))
      simp only [skiarearef08_Total.l0]
      rw [if_pos (by omega), if_pos (by omega), rd_nat, hcol]
      by_cases q1 : p.getD i 0 < 0
      · rw [if_pos q1]
      · rw [if_neg q1]; simp only [Option.bind_some]; rw [decide_eq_true (by omega)]
    by_cases q1 : p.getD i 0 < 0
    · rw [if_pos (.inl q1)]; exact bad (.inl q1)
    by_cases q2 : p.getD i 0 ≥ ((c.getD i []).length : Int)
    · rw [if_pos (.inr (.inl q2))]; exact bad (.inr (by omega))
    have good : ∀ r, Ev (fun k => skiarearef08_Total.l1 k c p s (i : Int) 0) r → Ev (fun k => skiarearef08_Total.l0 k c p s (i : Int)) r := by
      intro r hr'
      refine Ev.step (f := fun k => skiarearef08_Total.j1 k c p s (i : Int) false) (fun k => ?_) (Ev.step (f := fun k => skiarearef08_Total.l1 k c p s (i : Int) 0) (fun k => by simp only [skiarearef08_Total.j1]; rw [if_neg (by decide)]) hr')
      simp only [skiarearef08_Total.l0]
      rw [if_pos (by omega), if_pos (by omega), rd_nat, hcol, if_neg q1]
      simp only [Option.bind_some]; rw [decide_eq_false (by omega)]
    apply good
    generalize hx : p.getD i 0 = x at *
    obtain ⟨x, rfl⟩ : ∃ n : Nat, x = n := ⟨x.toNat, by omega⟩
    have hxw : x < w := by omega
    rw [Int.toNat_natCast] at *
    have hc := cell_at (R.cells hic) x
    have step1 : ∀ k j, j < i → skiarearef08_Total.l1 (k + 1) c p s (i : Int) (j : Int) = if (fun y : Int => decide (y = (x : Int))) (p.getD j 0) = true then some (0, false) else skiarearef08_Total.l1 k c p s (i : Int) ((j + 1 : Nat) : Int) := by
      intro k j hj
      simp only [skiarearef08_Total.l1]
      rw [if_pos (by omega), if_pos (by omega), if_pos (by omega), if_pos (by omega), if_pos (by omega), rd_nat, rd_nat, hx, w64s j i hj (by omega)]
      by_cases z : p.getD j 0 = (x : Int)
      · rw [if_pos z, if_pos (by simpa using z)]
      · rw [if_neg z, if_neg (by simpa using z)]
    have hs : wrap64 (s + (c.getD i []).getD x 0) = s + (c.getD i []).getD x 0 := w64 (by omega) (by omega)
    by_cases q3 : u.testBit x = true
    · rw [if_pos (.inr (.inr q3))]
      obtain ⟨j, hj, ej⟩ := (hn x).1 q3
      have key : ∀ d' m, m + d' = i → m ≤ j → Ev (fun k => skiarearef08_Total.l1 k c p s (i : Int) (m : Int)) (0, false) := by
        intro d'
        induction d' with
        | zero => intro m hm hmj; omega
        | succ d' ihd =>
          intro m hm hmj
          by_cases z : p.getD m 0 = (x : Int)
          · exact Ev.step (f := fun _ => some (0, false)) (fun k => by rw [step1 k m (by omega), if_pos (by simpa using z)]) (Ev.now _)
          · have : m ≠ j := fun y => z (y ▸ ej)
            exact Ev.step (f := fun k => skiarearef08_Total.l1 k c p s (i : Int) ((m + 1 : Nat) : Int)) (fun k => by rw [step1 k m (by omega), if_neg (by simpa using z)]) (ihd (m + 1) (by omega) (by omega))
      exact key i 0 (by omega) (by omega)
    · rw [if_neg (by rintro (z | z | z) <;> first | omega | exact q3 z)]
      have nx : Ev (fun k => skiarearef08_Total.l1 k c p s (i : Int) (i : Int)) (tot (c.drop (i + 1)) (p.drop (i + 1)) (u ||| 1 <<< x) (s + (c.getD i []).getD x 0)) := by
        refine Ev.step (f := fun k => skiarearef08_Total.l0 k c p (s + (c.getD i []).getD x 0) ((i + 1 : Nat) : Int)) (fun k => ?_) (ih (i + 1) _ _ (by omega) (or_lt hu hxw) (hn.next hx) (by omega) (by omega))
        simp only [skiarearef08_Total.l1]
        rw [if_neg (by omega), if_pos (by omega), if_pos (by omega), if_pos (by omega), rd_nat, hx, if_pos (by omega), rdL_nat, if_pos (by omega), rd_nat, hs, w64s i c.length hic (by omega)]
      have h := loop_any (g := fun k j => skiarearef08_Total.l1 k c p s (i : Int) ((j : Nat) : Int)) (n := i) (P := fun j => (fun y : Int => decide (y = (x : Int))) (p.getD j 0)) step1 nx i 0 (by omega)
      have hno : ∀ d' m, m + d' = i → anyFrom (fun j => (fun y : Int => decide (y = (x : Int))) (p.getD j 0)) m d' = false := by
        intro d'
        induction d' with
        | zero => intro m _; rfl
        | succ d' ihd =>
          intro m hm
          simp only [anyFrom]
          rw [ihd (m + 1) (by omega), Bool.or_false, decide_eq_false_iff_not]
          intro z
          exact q3 ((hn x).2 ⟨m, by omega, z⟩)
      rw [hno i 0 (by omega), if_neg (by decide)] at h
      exact h

theorem ref_total_ev {c : List (List Int)} {w : Nat} (R : RM c w) (p : List Int) : Ev (fun k => skiarearef08_Total.f k c p) (totalS c p) := by
  unfold totalS
  by_cases h : p.length = c.length
  · rw [if_pos h]
    have := ref_total_loop c w R p h c.length 0 0 0 (by omega) (Nat.pow_pos (by decide)) (fun x => by simp) (by omega) (by omega)
    exact Ev.congr (f := fun k => skiarearef08_Total.l0 k c p 0 ((0 : Nat) : Int)) (fun k => by unfold skiarearef08_Total.f; rw [if_pos (by omega)]; rfl) (by simpa using this)
  · rw [if_neg h]
    exact Ev.congr (f := fun _ => some (0, false)) (fun k => by unfold skiarearef08_Total.f; rw [if_neg (by omega)]) (Ev.now _)
/-! ### the table of the least costs -/
/-- The table as it stands when the sets from n on are told. -/
def Lz (val : Nat → Int) (n w : Nat) : List Int := (List.range (2 ^ w)).map fun s => if n ≤ s then val s else 0
theorem Lz_len (val : Nat → Int) (n w : Nat) : (Lz val n w).length = 2 ^ w := by simp [Lz]
theorem Lz_get (val : Nat → Int) {n w s : Nat} (hs : s < 2 ^ w) : (Lz val n w).getD s 0 = if n ≤ s then val s else 0 := by
  rw [List.getD_eq_getElem?_getD, List.getElem?_eq_getElem (by rw [Lz_len]; exact hs)]
  simp [Lz]
theorem Lz_ext (val : Nat → Int) (n w : Nat) (l : List Int) (hl : l.length = 2 ^ w) (h : ∀ s, s < 2 ^ w → l.getD s 0 = if n ≤ s then val s else 0) : l = Lz val n w := by
  apply List.ext_getElem (by rw [hl, Lz_len])
  intro s h1 h2
  have a := h s (by omega)
  have b := Lz_get val (n := n) (w := w) (s := s) (by omega)
  rw [List.getD_eq_getElem?_getD, List.getElem?_eq_getElem h1] at a
  rw [List.getD_eq_getElem?_getD, List.getElem?_eq_getElem h2] at b
  simp only [Option.getD_some] at a b
  rw [a, b]
theorem getD_set (l : List Int) (n s : Nat) (v : Int) (hn : n < l.length) : (l.set n v).getD s 0 = if s = n then v else l.getD s 0 := by
  rw [List.getD_eq_getElem?_getD, List.getElem?_set]
  by_cases h : n = s
  · subst h; rw [if_pos rfl, if_pos hn, if_pos rfl]; rfl
  · rw [if_neg h, if_neg (fun z => h z.symm), List.getD_eq_getElem?_getD]
theorem Lz_set (val : Nat → Int) {n w : Nat} (hn : n < 2 ^ w) (v : Int) (hv : v = val n) : (Lz val (n + 1) w).set n v = Lz val n w := by
  apply Lz_ext
  · rw [List.length_set, Lz_len]
  · intro s hs
    rw [getD_set _ _ _ _ (by rw [Lz_len]; exact hn), Lz_get val hs]
    by_cases h : s = n
    · subst h; rw [if_pos rfl, if_pos (Nat.le_refl _), hv]
    · rw [if_neg h]
      by_cases h2 : n + 1 ≤ s
      · rw [if_pos h2, if_pos (by omega)]
      · rw [if_neg h2, if_neg (by omega)]
theorem Lz_still (val : Nat → Int) {n w : Nat} (hv : val n = 0) : Lz val (n + 1) w = Lz val n w := by
  apply Lz_ext
  · rw [Lz_len]
  · intro s hs
    rw [Lz_get val hs]
    by_cases h : s = n
    · subst h; rw [if_neg (by omega), if_pos (Nat.le_refl _), hv]
    · by_cases h2 : n + 1 ≤ s
      · rw [if_pos h2, if_pos (by omega)]
      · rw [if_neg h2, if_neg (by omega)]
theorem Lz_zero (val : Nat → Int) (w : Nat) : List.replicate (2 ^ w) 0 = Lz val (2 ^ w) w := by
  apply Lz_ext
  · simp
  · intro s hs
    rw [if_neg (by omega), List.getD_eq_getElem?_getD, List.getElem?_replicate]
    split <;> rfl

/-- What the table tells of the set s: the program's word for sets of more columns than rows is 0, the reference's -1. -/
def valP (c : List (List Int)) (s : Nat) : Int := if pc s < c.length then opt (c.drop (pc s)) s else 0
def valR (c : List (List Int)) (s : Nat) : Int := if pc s ≤ c.length then opt (c.drop (pc s)) s else -1
theorem valP_le (c : List (List Int)) (s : Nat) (h : pc s ≤ c.length) : valP c s = opt (c.drop (pc s)) s := by
  unfold valP
  by_cases h2 : pc s < c.length
  · rw [if_pos h2]
  · rw [if_neg h2, List.drop_of_length_le (by omega)]; rfl
theorem valR_le (c : List (List Int)) (s : Nat) (h : pc s ≤ c.length) : valR c s = opt (c.drop (pc s)) s := by
  unfold valR; rw [if_pos h]

/-- What is reckoned with: cells and costs. -/
theorem sum_bd {c : List (List Int)} {w : Nat} (R : RM c w) {i : Nat} (hi : i < c.length) (j u : Nat) :
    -9 ≤ (c.getD i []).getD j 0 + opt (c.drop (i + 1)) u ∧ (c.getD i []).getD j 0 + opt (c.drop (i + 1)) u ≤ 8000000 := by
  have a := cell_at (R.cells hi) j
  have b := opt_bd (c.drop (i + 1)) u (fun r hr => R.cell r (List.mem_of_mem_drop hr))
  have := R.room
  have := R.w8
  rw [List.length_drop] at b
  omega

theorem opt_drop {c : List (List Int)} {w : Nat} (R : RM c w) {i : Nat} (hi : i < c.length) (u : Nat) :
    opt (c.drop i) u = best1 (fun j => (c.getD i []).getD j 0 + opt (c.drop (i + 1)) (u ||| 1 <<< j)) u w 0 (-1) := by
  rw [getD_drop c [] i hi]
  simp only [opt]
  rw [R.at hi]

theorem rest_l1 {c : List (List Int)} {w : Nat} (R : RM c w) {n : Nat} (hn : n < 2 ^ w) (hp : pc n < c.length) (L : List Int) (hL : L.length = 2 ^ w)
    (hv : ∀ j, j < w → n.testBit j = false → L.getD (n ||| 1 <<< j) 0 = opt (c.drop (pc n + 1)) (n ||| 1 <<< j)) {X : List Int}
    (hX : Ev (fun k => assign_rest.l0 k c (L.set n (opt (c.drop (pc n)) n)) ((n : Int) - 1)) X) :
    ∀ d j (b : Int), j + d = w → -9 ≤ b → b ≤ 8000000 → best1 (fun j => (c.getD (pc n) []).getD j 0 + opt (c.drop (pc n + 1)) (n ||| 1 <<< j)) n d j b = opt (c.drop (pc n)) n →
      Ev (fun k => assign_rest.l1 k c L (n : Int) b (c.getD (pc n) []) (w : Int) (j : Int)) X := by
  intro d
  have h8 := R.w8
  have hw := R.at hp
  have hn2 : n < 256 := Nat.lt_of_lt_of_le hn (pow_le h8)
  induction d with
  | zero =>
    intro j b hj hb0 hb1 hbest
    simp only [best1] at hbest
    refine Ev.step (f := fun k => assign_rest.l0 k c (L.set n (opt (c.drop (pc n)) n)) ((n : Int) - 1)) (fun k => ?_) hX
    simp only [assign_rest.l1]
    rw [if_neg (by omega), if_pos (by omega), if_pos (by omega), Int.toNat_natCast, hbest, w64 (by omega) (by omega)]
  | succ d ih =>
    intro j b hj hb0 hb1 hbest
    have ha := ask hn2 (c := j) (by omega)
    simp only [best1] at hbest
    by_cases ht : n.testBit j = true
    · rw [if_pos ht] at hbest ha
      refine Ev.step (f := fun k => assign_rest.l1 k c L (n : Int) b (c.getD (pc n) []) (w : Int) ((j + 1 : Nat) : Int)) (fun k => ?_) (ih (j + 1) b (by omega) hb0 hb1 hbest)
      simp only [assign_rest.l1]
      rw [if_pos (by omega), if_pos (by omega), if_pos (by omega), ha, if_neg (by decide), w64s j w (by omega) (by omega)]
    · have ht' : n.testBit j = false := by simpa using ht
      rw [if_neg ht] at hbest ha
      have hv' := hv j (by omega) ht'
      have hb := sum_bd R hp j (n ||| 1 <<< j)
      have hlt := or_lt hn (c := j) (by omega)
      have hsum : wrap64 (rd (c.getD (pc n) []) (j : Int) + rd L ((n ||| 1 <<< j : Nat) : Int)) = (c.getD (pc n) []).getD j 0 + opt (c.drop (pc n + 1)) (n ||| 1 <<< j) := by
        rw [rd_nat, rd_nat, hv', w64 (by omega) (by omega)]
      generalize hF : (c.getD (pc n) []).getD j 0 + opt (c.drop (pc n + 1)) (n ||| 1 <<< j) = v at *
      refine Ev.step (f := fun k => assign_rest.l1 k c L (n : Int) (if b < 0 ∨ v < b then v else b) (c.getD (pc n) []) (w : Int) ((j + 1 : Nat) : Int)) (fun k => ?_) (ih (j + 1) _ (by omega) (by split <;> omega) (by split <;> omega) hbest)
      simp only [assign_rest.l1]
      rw [if_pos (by omega), if_pos (by omega), if_pos (by omega), ha, if_pos rfl, take hn2 (by omega), hsum, w64s j w (by omega) (by omega)]
      by_cases q : b < 0
      · rw [if_pos q, if_pos (by omega), if_pos (by omega), if_pos (.inl q)]
      · rw [if_neg q, if_pos (by omega), if_pos (by omega)]
        by_cases q2 : v < b
        · rw [if_pos q2, if_pos (.inr q2)]
        · rw [if_neg q2, if_neg (by omega)]

theorem rest_l0 {c : List (List Int)} {w : Nat} (R : RM c w) : ∀ n, n ≤ 2 ^ w → Ev (fun k => assign_rest.l0 k c (Lz (valP c) n w) ((n : Int) - 1)) (Lz (valP c) 0 w) := by
  intro n
  have h8 := R.w8
  induction n with
  | zero => intro _; exact Ev.step (f := fun _ => some (Lz (valP c) 0 w)) (fun k => by simp only [assign_rest.l0]; rw [if_neg (by decide)]) (Ev.now _)
  | succ n ih =>
    intro hn
    have h := ih (by omega)
    have hn2 : n < 256 := Nat.lt_of_lt_of_le hn (pow_le h8)
    have e : ((n + 1 : Nat) : Int) - 1 = (n : Int) := by omega
    rw [e]
    by_cases hp : pc n < c.length
    · have hw := R.at hp
      have hX : Ev (fun k => assign_rest.l0 k c ((Lz (valP c) (n + 1) w).set n (opt (c.drop (pc n)) n)) ((n : Int) - 1)) (Lz (valP c) 0 w) := by
        rw [Lz_set (valP c) hn _ (valP_le c n (by omega)).symm]; exact h
      have h1 := rest_l1 R hn hp (Lz (valP c) (n + 1) w) (Lz_len _ _ _) (fun j hj hf => by
        rw [Lz_get (valP c) (or_lt hn hj), if_pos (Nat.succ_le_of_lt (gt_or hn2 (by omega) hf)), valP_le c _ (by rw [pc_set hn2 (by omega) hf]; omega), pc_set hn2 (by omega) hf]) hX w 0 (-1) (by omega) (by omega) (by omega) (opt_drop R hp n).symm
      refine Ev.step (f := fun k => assign_rest.l1 k c (Lz (valP c) (n + 1) w) (n : Int) (-1) (c.getD (pc n) []) (w : Int) ((0 : Nat) : Int)) (fun k => ?_) h1
      simp only [assign_rest.l0]
      rw [if_pos (by omega), ones hn2]
      simp only [Option.bind_some]
      rw [if_neg (by omega), if_pos (by omega), if_pos (by omega), rdL_nat, hw]; rfl
    · have hz : valP c n = 0 := by unfold valP; rw [if_neg hp]
      rw [← Lz_still (valP c) hz] at h
      refine Ev.step (f := fun k => assign_rest.l0 k c (Lz (valP c) (n + 1) w) ((n : Int) - 1)) (fun k => ?_) h
      simp only [assign_rest.l0]
      rw [if_pos (by omega), ones hn2]
      simp only [Option.bind_some]
      rw [if_pos (by omega), w64 (by omega) (by omega)]

theorem one_shl_w {w : Nat} (hw : w ≤ 8) : shl .i64 1 (w : Int) = ((2 ^ w : Nat) : Int) := by
  rw [shl_nat (by omega), Nat.one_shiftLeft]

theorem rm_empty {c : List (List Int)} {w : Nat} (h : c.length = 0) : c = [] := List.length_eq_zero_iff.1 h

/-- The number of columns, as both texts have it. -/
def cols (c : List (List Int)) : Nat := if c.length = 0 then 0 else (c.getD 0 []).length

theorem rest_ev {c : List (List Int)} (R : RM c (cols c)) : Ev (fun k => assign_rest.f k c) (Lz (valP c) 0 (cols c)) := by
  by_cases h0 : c.length = 0
  · obtain rfl := List.length_eq_zero_iff.1 h0
    exact Ev.congr (f := fun _ => some (Lz (valP []) 0 (cols []))) (fun k => by unfold assign_rest.f; rw [if_pos (by decide)]; rfl) (Ev.now _)
  · have hw : (c.getD 0 []).length = cols c := by unfold cols; rw [if_neg h0]
    have h8 := R.w8
    generalize cols c = w at *
    have hp := pow_le h8
    have hz := Nat.pow_pos (n := w) (show 0 < 2 by decide)
    have h := rest_l0 R (2 ^ w) (Nat.le_refl _)
    refine Ev.congr (f := fun k => assign_rest.l0 k c (Lz (valP c) (2 ^ w) w) (((2 ^ w : Nat) : Int) - 1)) (fun k => ?_) h
    unfold assign_rest.f
    rw [if_neg (by omega), if_pos (by omega), show rd_L1 c 0 = c.getD 0 [] from rdL_nat c 0, hw, one_shl_w h8, if_pos (by omega), if_pos (by omega), Int.toNat_natCast]
    simp only [Option.bind_some]
    rw [Lz_zero (valP c) w, Lz_len, w64 (by omega) (by omega)]

/-! ### the reference's table -/
theorem ref_rest_l1 {c : List (List Int)} {w : Nat} (R : RM c w) {n : Nat} (hn : n < 2 ^ w) (hp : pc n < c.length) (L : List Int) (hL : L.length = 2 ^ w)
    (hv : ∀ j, j < w → n.testBit j = false → L.getD (n ||| 1 <<< j) 0 = opt (c.drop (pc n + 1)) (n ||| 1 <<< j)) {X : List Int}
    (hX : Ev (fun k => skiarearef08_rest.l0 k c (L.set n (opt (c.drop (pc n)) n)) ((n : Int) - 1)) X) :
    ∀ d j (b : Int), j + d = w → -9 ≤ b → b ≤ 8000000 → best1 (fun j => (c.getD (pc n) []).getD j 0 + opt (c.drop (pc n + 1)) (n ||| 1 <<< j)) n d j b = opt (c.drop (pc n)) n →
      Ev (fun k => skiarearef08_rest.l1 k c (L.set n b) (n : Int) (pc n : Int) (j : Int)) X := by
  intro d
  have h8 := R.w8
  have hw := R.at hp
  have hn2 : n < 256 := Nat.lt_of_lt_of_le hn (pow_le h8)
  have hcol := columns_rm R (by omega)
  induction d with
  | zero =>
    intro j b hj hb0 hb1 hbest
    simp only [best1] at hbest
    refine Ev.step (f := fun k => skiarearef08_rest.l0 k c (L.set n (opt (c.drop (pc n)) n)) ((n : Int) - 1)) (fun k => ?_) hX
    simp only [skiarearef08_rest.l1]
    rw [hcol]
    simp only [Option.bind_some]
    rw [if_neg (by omega), hbest, w64 (by omega) (by omega)]
  | succ d ih =>
    intro j b hj hb0 hb1 hbest
    have ha := ask_ref hn2 (c := j) (by omega)
    simp only [best1] at hbest
    have hu : (0 : Int) ≤ IntKind.u64.wrap (j : Int) := by rw [u64w (by omega) (by omega)]; omega
    by_cases ht : n.testBit j = true
    · rw [if_pos ht] at hbest ha
      refine Ev.step (f := fun k => skiarearef08_rest.l1 k c (L.set n b) (n : Int) (pc n : Int) ((j + 1 : Nat) : Int)) (fun k => ?_) (ih (j + 1) b (by omega) hb0 hb1 hbest)
      simp only [skiarearef08_rest.l1]
      rw [hcol]
      simp only [Option.bind_some]
      rw [if_pos (by omega), if_pos hu, ha, if_neg (by decide), w64s j w (by omega) (by omega)]
    · have ht' : n.testBit j = false := by simpa using ht
      rw [if_neg ht] at hbest ha
      have hv' := hv j (by omega) ht'
      have hb := sum_bd R hp j (n ||| 1 <<< j)
      have hlt := or_lt hn (c := j) (by omega)
      have hgt := gt_or hn2 (c := j) (by omega) ht'
      have hsum : wrap64 (rd (c.getD (pc n) []) (j : Int) + rd (L.set n b) ((n ||| 1 <<< j : Nat) : Int)) = (c.getD (pc n) []).getD j 0 + opt (c.drop (pc n + 1)) (n ||| 1 <<< j) := by
        rw [rd_nat, rd_nat, getD_set _ _ _ _ (by omega), if_neg (by omega), hv', w64 (by omega) (by omega)]
      have hown : rd (L.set n b) (n : Int) = b := by rw [rd_nat, getD_set _ _ _ _ (by omega), if_pos rfl]
      generalize hF : (c.getD (pc n) []).getD j 0 + opt (c.drop (pc n + 1)) (n ||| 1 <<< j) = v at *
      refine Ev.step (f := fun k => skiarearef08_rest.l1 k c (L.set n (if b < 0 ∨ v < b then v else b)) (n : Int) (pc n : Int) ((j + 1 : Nat) : Int)) (fun k => ?_) (ih (j + 1) _ (by omega) (by split <;> omega) (by split <;> omega) hbest)
      simp only [skiarearef08_rest.l1]
      rw [hcol]
      simp only [Option.bind_some]
      rw [if_pos (by omega), if_pos hu, ha, if_pos rfl, if_pos (by omega), if_pos (by omega), if_pos (by omega), rdL_nat, if_pos (by omega), take_ref hn2 (by omega) ht', if_pos (by omega), if_pos (by rw [List.length_set]; omega), if_pos (by omega), if_pos (by rw [List.length_set]; omega), hown, hsum, w64s j w (by omega) (by omega), Int.toNat_natCast, List.set_set]
      by_cases q : b < 0
      · rw [if_pos q, if_pos (.inl q)]
      · rw [if_neg q]
        by_cases q2 : v < b
        · rw [if_pos q2, if_pos (.inr q2)]
        · rw [if_neg q2, if_neg (by omega)]

theorem ref_rest_l0 {c : List (List Int)} {w : Nat} (R : RM c w) : ∀ n, n ≤ 2 ^ w → Ev (fun k => skiarearef08_rest.l0 k c (Lz (valR c) n w) ((n : Int) - 1)) (Lz (valR c) 0 w) := by
  intro n
  have h8 := R.w8
  have hr := R.room
  induction n with
  | zero => intro _; exact Ev.step (f := fun _ => some (Lz (valR c) 0 w)) (fun k => by simp only [skiarearef08_rest.l0]; rw [if_neg (by decide)]) (Ev.now _)
  | succ n ih =>
    intro hn
    have h := ih (by omega)
    have hn2 : n < 256 := Nat.lt_of_lt_of_le hn (pow_le h8)
    have e : ((n + 1 : Nat) : Int) - 1 = (n : Int) := by omega
    rw [e]
    have hlen := Lz_len (valR c) (n + 1) w
    -- the beginning of a round, whatever follows
    have go : ∀ X, Ev (fun k => skiarearef08_rest.j1 k c ((Lz (valR c) (n + 1) w).set n (if pc n = c.length then 0 else -1)) (n : Int) (pc n : Int)) X → Ev (fun k => skiarearef08_rest.l0 k c (Lz (valR c) (n + 1) w) (n : Int)) X := by
      intro X hX
      obtain ⟨K1, hK1⟩ := taken_ev hn2
      obtain ⟨K2, hK2⟩ := hX
      refine ⟨max K1 K2 + 1, fun k hk => ?_⟩
      obtain ⟨k, rfl⟩ : ∃ z, k = z + 1 := ⟨k - 1, by omega⟩
      have hX' := hK2 k (by omega)
      have hT := hK1 k (by omega)
      simp only [skiarearef08_rest.l0]
      simp only at hT hX'
      rw [if_pos (by omega), hT]
      simp only [Option.bind_some]
      rw [if_pos (by omega), if_pos (by omega), Int.toNat_natCast]
      by_cases q : pc n = c.length
      · rw [if_pos q] at hX'; rw [if_pos (by omega), List.set_set]; exact hX'
      · rw [if_neg q] at hX'; rw [if_neg (by omega)]; exact hX'
    apply go
    by_cases hp : pc n < c.length
    · have hX : Ev (fun k => skiarearef08_rest.l0 k c ((Lz (valR c) (n + 1) w).set n (opt (c.drop (pc n)) n)) ((n : Int) - 1)) (Lz (valR c) 0 w) := by
        rw [Lz_set (valR c) hn _ (valR_le c n (by omega)).symm]; exact h
      have h1 := ref_rest_l1 R hn hp (Lz (valR c) (n + 1) w) hlen (fun j hj hf => by
        rw [Lz_get (valR c) (or_lt hn hj), if_pos (Nat.succ_le_of_lt (gt_or hn2 (by omega) hf)), valR_le c _ (by rw [pc_set hn2 (by omega) hf]; omega), pc_set hn2 (by omega) hf]) hX w 0 (-1) (by omega) (by omega) (by omega) (opt_drop R hp n).symm
      rw [if_neg (by omega)]
      exact Ev.step (f := fun k => skiarearef08_rest.l1 k c ((Lz (valR c) (n + 1) w).set n (-1)) (n : Int) (pc n : Int) ((0 : Nat) : Int)) (fun k => by simp only [skiarearef08_rest.j1]; rw [if_neg (by omega)]; rfl) h1
    · refine Ev.step (f := fun k => skiarearef08_rest.l0 k c ((Lz (valR c) (n + 1) w).set n (if pc n = c.length then 0 else -1)) ((n : Int) - 1)) (fun k => by simp only [skiarearef08_rest.j1]; rw [if_pos (by omega), w64 (by omega) (by omega)]) ?_
      rw [Lz_set (valR c) hn _ ?_]
      · exact h
      · unfold valR
        by_cases q : pc n = c.length
        · rw [if_pos q, if_pos (by omega), List.drop_of_length_le (by omega)]; rfl
        · rw [if_neg q, if_neg (by omega)]

theorem ref_rest_ev {c : List (List Int)} (R : RM c (cols c)) : Ev (fun k => skiarearef08_rest.f k c) (Lz (valR c) 0 (cols c)) := by
  have hcol : skiarearef08_columns.f c = some (cols c : Int) := by
    by_cases h0 : c.length = 0
    · unfold skiarearef08_columns.f cols; rw [if_pos (by omega), if_pos h0]; rfl
    · rw [columns_eq c (by omega)]; unfold cols; rw [if_neg h0]
  have h8 := R.w8
  generalize cols c = w at *
  have hp := pow_le h8
  have hz := Nat.pow_pos (n := w) (show 0 < 2 by decide)
  have h := ref_rest_l0 R (2 ^ w) (Nat.le_refl _)
  refine Ev.congr (f := fun k => skiarearef08_rest.l0 k c (Lz (valR c) (2 ^ w) w) (((2 ^ w : Nat) : Int) - 1)) (fun k => ?_) h
  unfold skiarearef08_rest.f
  rw [hcol]
  simp only [Option.bind_some]
  rw [u64w (by omega) (by omega), if_pos (by omega), one_shl_w h8, if_pos (by omega), if_pos (by omega), Int.toNat_natCast, Lz_zero (valR c) w, w64 (by omega) (by omega)]

/-! ### Best -/
theorem pickj_some (F : Nat → Int) (u : Nat) (v : Int) (d : Nat) : ∀ j m, pickj F u v d j = some m → j ≤ m ∧ m < j + d ∧ u.testBit m = false ∧ F m = v := by
  induction d with
  | zero => intro j m h; cases h
  | succ d ih =>
    intro j m h
    simp only [pickj] at h
    by_cases hc : u.testBit j = false ∧ F j = v
    · rw [if_pos hc] at h; obtain rfl := Option.some.inj h; exact ⟨Nat.le_refl _, by omega, hc.1, hc.2⟩
    · rw [if_neg hc] at h
      obtain ⟨a, b, c, e⟩ := ih _ _ h
      exact ⟨by omega, by omega, c, e⟩
theorem pick_le (rs : List (List Int)) : ∀ u, (pick rs u).length ≤ rs.length := by
  induction rs with
  | nil => intro u; simp [pick]
  | cons r rs ih =>
    intro u
    simp only [pick]
    split
    · rename_i j _; have := ih (u ||| 1 <<< j); simp only [List.length_cons]; omega
    · have := ih u; simp only [List.length_cons]; omega
theorem pick_ex {r : List Int} {rs : List (List Int)} {u w : Nat} (R : Room (r :: rs) u w) :
    ∃ j, pickj (fun j => r.getD j 0 + opt rs (u ||| 1 <<< j)) u (opt (r :: rs) u) w 0 = some j ∧ j < w ∧ u.testBit j = false ∧ pick (r :: rs) u = (j : Int) :: pick rs (u ||| 1 <<< j) := by
  have hw := R.wide r (by simp)
  obtain ⟨_, hv, _⟩ := opt_spec (r :: rs) u w R
  have hl := Vd_len _ _ _ hv
  cases h : pickj (fun j => r.getD j 0 + opt rs (u ||| 1 <<< j)) u (opt (r :: rs) u) w 0 with
  | none =>
    have e : pick (r :: rs) u = pick rs u := by simp only [pick]; rw [hw, h]
    rw [e] at hl
    have := pick_le rs u
    simp only [List.length_cons] at hl; omega
  | some j =>
    obtain ⟨_, a, b, _⟩ := pickj_some _ _ _ _ _ _ h
    exact ⟨j, rfl, by omega, b, by simp only [pick]; rw [hw, h]⟩

theorem best_l1 {c : List (List Int)} {w : Nat} (R : RM c w) {i u : Nat} (hi : i < c.length) (hu : u < 2 ^ w) (hp : pc u = i) (acc : List Int) (ha : acc.length ≤ 8) {m : Nat} {X : List Int × Int × Int}
    (hX : Ev (fun k => assign_Best.l0 k (Lz (valP c) 0 w) (acc ++ [(m : Int)]) ((u ||| 1 <<< m : Nat) : Int) c (c.length : Int) ((i + 1 : Nat) : Int)) X) :
    ∀ d j, j + d = w → pickj (fun j => (c.getD i []).getD j 0 + opt (c.drop (i + 1)) (u ||| 1 <<< j)) u (opt (c.drop i) u) d j = some m →
      Ev (fun k => assign_Best.l1 k (Lz (valP c) 0 w) acc (u : Int) c (c.length : Int) (i : Int) (c.getD i []) (w : Int) (j : Int)) X := by
  intro d
  have h8 := R.w8
  have hr := R.room
  have hw := R.at hi
  have hu2 : u < 256 := Nat.lt_of_lt_of_le hu (pow_le h8)
  have hlen := Lz_len (valP c) 0 w
  have hown : rd (Lz (valP c) 0 w) (u : Int) = opt (c.drop i) u := by rw [rd_nat, Lz_get (valP c) hu, if_pos (Nat.zero_le _), valP_le c u (by omega), hp]
  induction d with
  | zero => intro j hj h; cases h
  | succ d ih =>
    intro j hj h
    simp only [pickj] at h
    have ha' := ask hu2 (c := j) (by omega)
    by_cases ht : u.testBit j = true
    · rw [if_neg (by rw [ht]; simp)] at h
      rw [if_pos ht] at ha'
      refine Ev.step (f := fun k => assign_Best.l1 k (Lz (valP c) 0 w) acc (u : Int) c (c.length : Int) (i : Int) (c.getD i []) (w : Int) ((j + 1 : Nat) : Int)) (fun k => ?_) (ih (j + 1) (by omega) h)
      simp only [assign_Best.l1]
      rw [if_pos (by omega), if_pos (by omega), if_pos (by omega), ha', if_neg (by decide), w64s j w (by omega) (by omega)]
    · have ht' : u.testBit j = false := by simpa using ht
      rw [if_neg ht] at ha'
      have hlt := or_lt hu (c := j) (by omega)
      have hb := sum_bd R hi j (u ||| 1 <<< j)
      have hpc := pc_set hu2 (c := j) (by omega) ht'
      have hsum : wrap64 (rd (c.getD i []) (j : Int) + rd (Lz (valP c) 0 w) ((u ||| 1 <<< j : Nat) : Int)) = (c.getD i []).getD j 0 + opt (c.drop (i + 1)) (u ||| 1 <<< j) := by
        rw [rd_nat, rd_nat, Lz_get (valP c) hlt, if_pos (Nat.zero_le _), valP_le c _ (by omega), hpc, hp, w64 (by omega) (by omega)]
      have st : ∀ k, assign_Best.l1 (k + 1) (Lz (valP c) 0 w) acc (u : Int) c (c.length : Int) (i : Int) (c.getD i []) (w : Int) (j : Int) =
          if (c.getD i []).getD j 0 + opt (c.drop (i + 1)) (u ||| 1 <<< j) = opt (c.drop i) u then assign_Best.l0 k (Lz (valP c) 0 w) (acc ++ [(j : Int)]) ((u ||| 1 <<< j : Nat) : Int) c (c.length : Int) ((i + 1 : Nat) : Int)
          else assign_Best.l1 k (Lz (valP c) 0 w) acc (u : Int) c (c.length : Int) (i : Int) (c.getD i []) (w : Int) ((j + 1 : Nat) : Int) := by
        intro k
        simp only [assign_Best.l1]
        rw [if_pos (by omega), if_pos (by omega), if_pos (by omega), ha', if_pos rfl, take hu2 (by omega), if_pos (by omega), if_pos (by omega), if_pos (by omega), if_pos (by omega), hsum, hown, w64s j w (by omega) (by omega), w64s i c.length hi (by omega)]
        by_cases q : (c.getD i []).getD j 0 + opt (c.drop (i + 1)) (u ||| 1 <<< j) = opt (c.drop i) u
        · rw [if_pos q, if_pos q, if_pos (by omega)]
        · rw [if_neg q, if_neg q]
      by_cases q : (c.getD i []).getD j 0 + opt (c.drop (i + 1)) (u ||| 1 <<< j) = opt (c.drop i) u
      · rw [if_pos ⟨ht', q⟩] at h
        obtain rfl := Option.some.inj h
        exact Ev.step (f := fun k => assign_Best.l0 k (Lz (valP c) 0 w) (acc ++ [(j : Int)]) ((u ||| 1 <<< j : Nat) : Int) c (c.length : Int) ((i + 1 : Nat) : Int)) (fun k => by rw [st, if_pos q]) hX
      · rw [if_neg (fun z => q z.2)] at h
        exact Ev.step (f := fun k => assign_Best.l1 k (Lz (valP c) 0 w) acc (u : Int) c (c.length : Int) (i : Int) (c.getD i []) (w : Int) ((j + 1 : Nat) : Int)) (fun k => by rw [st, if_neg q]) (ih (j + 1) (by omega) h)

theorem Lz_first {c : List (List Int)} {w : Nat} (R : RM c w) : rd (Lz (valP c) 0 w) 0 = opt c 0 := by
  rw [show rd (Lz (valP c) 0 w) 0 = (Lz (valP c) 0 w).getD 0 0 from rd_nat _ 0, Lz_get (valP c) (Nat.pow_pos (by decide)), if_pos (Nat.le_refl _), valP_le c 0 (by rw [show pc 0 = 0 from by decide]; omega), show pc 0 = 0 from by decide, List.drop_zero]
theorem Lz_firstR {c : List (List Int)} {w : Nat} (R : RM c w) : rd (Lz (valR c) 0 w) 0 = opt c 0 := by
  rw [show rd (Lz (valR c) 0 w) 0 = (Lz (valR c) 0 w).getD 0 0 from rd_nat _ 0, Lz_get (valR c) (Nat.pow_pos (by decide)), if_pos (Nat.le_refl _), valR_le c 0 (by rw [show pc 0 = 0 from by decide]; omega), show pc 0 = 0 from by decide, List.drop_zero]

theorem RM.room_at {c : List (List Int)} {w : Nat} (R : RM c w) {i u : Nat} (hi : i ≤ c.length) (hu : u < 2 ^ w) (hp : pc u = i) : Room (c.drop i) u w where
  wide := fun r hr => R.wide r (List.mem_of_mem_drop hr)
  cell := fun r hr => R.cell r (List.mem_of_mem_drop hr)
  w8 := R.w8
  lt := hu
  room := by have := R.room; rw [List.length_drop]; omega

theorem best_l0 {c : List (List Int)} {w : Nat} (R : RM c w) : ∀ d i u (acc : List Int), i + d = c.length → u < 2 ^ w → pc u = i → acc.length = i →
    Ev (fun k => assign_Best.l0 k (Lz (valP c) 0 w) acc (u : Int) c (c.length : Int) (i : Int)) (acc ++ pick (c.drop i) u, opt c 0, 0) := by
  intro d
  have h8 := R.w8
  have hr := R.room
  have hz := Nat.pow_pos (n := w) (show 0 < 2 by decide)
  induction d with
  | zero =>
    intro i u acc hi hu hp ha
    rw [List.drop_of_length_le (by omega)]
    refine Ev.step (f := fun _ => some (acc ++ pick [] u, opt c 0, 0)) (fun k => ?_) (Ev.now _)
    simp only [assign_Best.l0]
    rw [if_neg (by omega), if_pos (by rw [Lz_len]; omega), Lz_first R]; simp [pick]
  | succ d ih =>
    intro i u acc hi hu hp ha
    have hic : i < c.length := by omega
    have hw := R.at hic
    have hu2 : u < 256 := Nat.lt_of_lt_of_le hu (pow_le h8)
    have Q := R.room_at (Nat.le_of_lt hic) hu hp
    have hd := getD_drop c [] i hic
    rw [hd] at Q
    obtain ⟨m, e1, e2, e3, e4⟩ := pick_ex Q
    rw [← hd] at e1 e4
    have hnext := ih (i + 1) (u ||| 1 <<< m) (acc ++ [(m : Int)]) (by omega) (or_lt hu e2) (by rw [pc_set hu2 (by omega) e3, hp]) (by simp [ha])
    have hb := best_l1 R hic hu hp acc (by omega) hnext w 0 (by omega) e1
    rw [e4]
    refine Ev.step (f := fun k => assign_Best.l1 k (Lz (valP c) 0 w) acc (u : Int) c (c.length : Int) (i : Int) (c.getD i []) (w : Int) ((0 : Nat) : Int)) (fun k => ?_) (by simpa using hb)
    simp only [assign_Best.l0]
    rw [if_pos (by omega), if_pos (by omega), if_pos (by omega), rdL_nat, hw]; rfl

def bestS (c : List (List Int)) : List Int × Int × Int := if rightS c = 0 then (pick c 0, opt c 0, 0) else ([], 0, rightS c)

theorem best_ev (c : List (List Int)) : Ev (fun k => assign_Best.f k c) (bestS c) := by
  unfold bestS assign_Best.f
  refine Ev.bind (right_ev c) ?_
  by_cases h : rightS c = 0
  · simp only [if_pos h]
    have R : RM c (cols c) := rm_of c h
    refine Ev.bind (rest_ev R) ?_
    have := best_l0 R c.length 0 0 [] (by omega) (Nat.pow_pos (by decide)) (by decide) rfl
    simpa using this
  · simp only [if_neg h]
    exact Ev.now _

theorem ref_best_l1 {c : List (List Int)} {w : Nat} (R : RM c w) {i u : Nat} (hi : i < c.length) (hu : u < 2 ^ w) (hp : pc u = i) (acc : List Int) (ha : acc.length ≤ 8) {m : Nat} {X : List Int × Int × Int}
    (hX : Ev (fun k => skiarearef08_Best.l0 k c (Lz (valR c) 0 w) (acc ++ [(m : Int)]) ((u ||| 1 <<< m : Nat) : Int) ((i + 1 : Nat) : Int)) X) :
    ∀ d j, j + d = w → pickj (fun j => (c.getD i []).getD j 0 + opt (c.drop (i + 1)) (u ||| 1 <<< j)) u (opt (c.drop i) u) d j = some m →
      Ev (fun k => skiarearef08_Best.l1 k c (Lz (valR c) 0 w) acc (u : Int) (i : Int) (j : Int)) X := by
  intro d
  have h8 := R.w8
  have hr := R.room
  have hw := R.at hi
  have hcol := columns_rm R (by omega)
  have hu2 : u < 256 := Nat.lt_of_lt_of_le hu (pow_le h8)
  have hlen := Lz_len (valR c) 0 w
  have hown : rd (Lz (valR c) 0 w) (u : Int) = opt (c.drop i) u := by rw [rd_nat, Lz_get (valR c) hu, if_pos (Nat.zero_le _), valR_le c u (by omega), hp]
  induction d with
  | zero => intro j hj h; cases h
  | succ d ih =>
    intro j hj h
    simp only [pickj] at h
    have ha' := ask_ref hu2 (c := j) (by omega)
    have hu0 : (0 : Int) ≤ IntKind.u64.wrap (j : Int) := by rw [u64w (by omega) (by omega)]; omega
    by_cases ht : u.testBit j = true
    · rw [if_neg (by rw [ht]; simp)] at h
      rw [if_pos ht] at ha'
      refine Ev.step (f := fun k => skiarearef08_Best.l1 k c (Lz (valR c) 0 w) acc (u : Int) (i : Int) ((j + 1 : Nat) : Int)) (fun k => ?_) (ih (j + 1) (by omega) h)
      simp only [skiarearef08_Best.l1]
      rw [hcol]
      simp only [Option.bind_some]
      rw [if_pos (by omega), if_pos hu0, ha', if_neg (by decide), w64s j w (by omega) (by omega)]
    · have ht' : u.testBit j = false := by simpa using ht
      rw [if_neg ht] at ha'
      have hlt := or_lt hu (c := j) (by omega)
      have hb := sum_bd R hi j (u ||| 1 <<< j)
      have hpc := pc_set hu2 (c := j) (by omega) ht'
      have hsum : wrap64 (rd (c.getD i []) (j : Int) + rd (Lz (valR c) 0 w) ((u ||| 1 <<< j : Nat) : Int)) = (c.getD i []).getD j 0 + opt (c.drop (i + 1)) (u ||| 1 <<< j) := by
        rw [rd_nat, rd_nat, Lz_get (valR c) hlt, if_pos (Nat.zero_le _), valR_le c _ (by omega), hpc, hp, w64 (by omega) (by omega)]
      have st : ∀ k, skiarearef08_Best.l1 (k + 1) c (Lz (valR c) 0 w) acc (u : Int) (i : Int) (j : Int) =
          if (c.getD i []).getD j 0 + opt (c.drop (i + 1)) (u ||| 1 <<< j) = opt (c.drop i) u then skiarearef08_Best.l0 k c (Lz (valR c) 0 w) (acc ++ [(j : Int)]) ((u ||| 1 <<< j : Nat) : Int) ((i + 1 : Nat) : Int)
          else skiarearef08_Best.l1 k c (Lz (valR c) 0 w) acc (u : Int) (i : Int) ((j + 1 : Nat) : Int) := by
        intro k
        simp only [skiarearef08_Best.l1]
        rw [hcol]
        simp only [Option.bind_some]
        rw [if_pos (by omega), if_pos hu0, ha', if_pos rfl, if_pos (by omega), if_pos (by omega), if_pos (by omega), rdL_nat, if_pos (by omega), take_ref hu2 (by omega) ht', if_pos (by omega), if_pos (by omega), if_pos (by omega), if_pos (by omega), hsum, hown, w64s j w (by omega) (by omega), w64s i c.length hi (by omega)]
        by_cases q : (c.getD i []).getD j 0 + opt (c.drop (i + 1)) (u ||| 1 <<< j) = opt (c.drop i) u
        · rw [if_pos q, if_pos q, if_pos (by omega)]
        · rw [if_neg q, if_neg q]
      by_cases q : (c.getD i []).getD j 0 + opt (c.drop (i + 1)) (u ||| 1 <<< j) = opt (c.drop i) u
      · rw [if_pos ⟨ht', q⟩] at h
        obtain rfl := Option.some.inj h
        exact Ev.step (f := fun k => skiarearef08_Best.l0 k c (Lz (valR c) 0 w) (acc ++ [(j : Int)]) ((u ||| 1 <<< j : Nat) : Int) ((i + 1 : Nat) : Int)) (fun k => by rw [st, if_pos q]) hX
      · rw [if_neg (fun z => q z.2)] at h
        exact Ev.step (f := fun k => skiarearef08_Best.l1 k c (Lz (valR c) 0 w) acc (u : Int) (i : Int) ((j + 1 : Nat) : Int)) (fun k => by rw [st, if_neg q]) (ih (j + 1) (by omega) h)

theorem ref_best_l0 {c : List (List Int)} {w : Nat} (R : RM c w) : ∀ d i u (acc : List Int), i + d = c.length → u < 2 ^ w → pc u = i → acc.length = i →
    Ev (fun k => skiarearef08_Best.l0 k c (Lz (valR c) 0 w) acc (u : Int) (i : Int)) (acc ++ pick (c.drop i) u, opt c 0, 0) := by
  intro d
  have h8 := R.w8
  have hr := R.room
  have hz := Nat.pow_pos (n := w) (show 0 < 2 by decide)
  induction d with
  | zero =>
    intro i u acc hi hu hp ha
    rw [List.drop_of_length_le (by omega)]
    refine Ev.step (f := fun _ => some (acc ++ pick [] u, opt c 0, 0)) (fun k => ?_) (Ev.now _)
    simp only [skiarearef08_Best.l0]
    rw [if_neg (by omega), if_pos (by rw [Lz_len]; omega), Lz_firstR R]; simp [pick]
  | succ d ih =>
    intro i u acc hi hu hp ha
    have hic : i < c.length := by omega
    have hu2 : u < 256 := Nat.lt_of_lt_of_le hu (pow_le h8)
    have Q := R.room_at (Nat.le_of_lt hic) hu hp
    have hd := getD_drop c [] i hic
    rw [hd] at Q
    obtain ⟨m, e1, e2, e3, e4⟩ := pick_ex Q
    rw [← hd] at e1 e4
    have hnext := ih (i + 1) (u ||| 1 <<< m) (acc ++ [(m : Int)]) (by omega) (or_lt hu e2) (by rw [pc_set hu2 (by omega) e3, hp]) (by simp [ha])
    have hb := ref_best_l1 R hic hu hp acc (by omega) hnext w 0 (by omega) e1
    rw [e4]
    refine Ev.step (f := fun k => skiarearef08_Best.l1 k c (Lz (valR c) 0 w) acc (u : Int) (i : Int) ((0 : Nat) : Int)) (fun k => ?_) (by simpa using hb)
    simp only [skiarearef08_Best.l0]
    rw [if_pos (by omega)]; rfl

theorem ref_best_ev (c : List (List Int)) : Ev (fun k => skiarearef08_Best.f k c) (bestS c) := by
  unfold bestS skiarearef08_Best.f
  refine Ev.bind (ref_right_ev c) ?_
  by_cases h : rightS c = 0
  · simp only [if_pos h]
    have R : RM c (cols c) := rm_of c h
    refine Ev.bind (ref_rest_ev R) ?_
    have := ref_best_l0 R c.length 0 0 [] (by omega) (Nat.pow_pos (by decide)) (by decide) rfl
    simpa using this
  · simp only [if_neg h]
    exact Ev.now _
/-! ### Same, before, alive -/
theorem same_loop (a b : List Int) (hl : a.length = b.length) (hn : a.length ≤ 1000000000000) : ∀ d i, i + d = a.length → Ev (fun k => skiarearef08_Same.l0 k a b (i : Int)) (decide (a.drop i = b.drop i)) := by
  intro d
  induction d with
  | zero =>
    intro i hi
    rw [List.drop_of_length_le (by omega), List.drop_of_length_le (by omega)]
    exact Ev.step (f := fun _ => some true) (fun k => by simp only [skiarearef08_Same.l0]; rw [if_neg (by omega)]) (Ev.now _)
  | succ d ih =>
    intro i hi
    have h := ih (i + 1) (by omega)
    rw [getD_drop a 0 i (by omega), getD_drop b 0 i (by omega)]
    by_cases q : a.getD i 0 = b.getD i 0
    · have e : decide (a.getD i 0 :: a.drop (i + 1) = b.getD i 0 :: b.drop (i + 1)) = decide (a.drop (i + 1) = b.drop (i + 1)) := by
        rw [decide_eq_decide, List.cons.injEq]; exact ⟨fun z => z.2, fun z => ⟨q, z⟩⟩
      rw [e]
      refine Ev.step (f := fun k => skiarearef08_Same.l0 k a b ((i + 1 : Nat) : Int)) (fun k => ?_) h
      simp only [skiarearef08_Same.l0]
      rw [if_pos (by omega), if_pos (by omega), if_pos (by omega), rd_nat, rd_nat, if_pos q, w64s i a.length (by omega) (by omega)]
    · have e : decide (a.getD i 0 :: a.drop (i + 1) = b.getD i 0 :: b.drop (i + 1)) = false := by
        rw [decide_eq_false_iff_not, List.cons.injEq]; exact fun z => q z.1
      rw [e]
      refine Ev.step (f := fun _ => some false) (fun k => ?_) (Ev.now _)
      simp only [skiarearef08_Same.l0]
      rw [if_pos (by omega), if_pos (by omega), if_pos (by omega), rd_nat, rd_nat, if_neg q]
theorem same_ev (a b : List Int) (hn : a.length ≤ 1000000000000) : Ev (fun k => skiarearef08_Same.f k a b) (decide (a = b)) := by
  by_cases hl : a.length = b.length
  · have h := same_loop a b hl hn a.length 0 (by omega)
    rw [List.drop_zero, List.drop_zero] at h
    exact Ev.congr (f := fun k => skiarearef08_Same.l0 k a b ((0 : Nat) : Int)) (fun k => by unfold skiarearef08_Same.f; rw [if_pos (by omega)]; rfl) h
  · have e : decide (a = b) = false := by rw [decide_eq_false_iff_not]; exact fun z => hl (by rw [z])
    rw [e]
    exact Ev.congr (f := fun _ => some false) (fun k => by unfold skiarearef08_Same.f; rw [if_neg (by omega)]) (Ev.now _)

theorem before_loop (a b : List Int) (hn : a.length ≤ 1000000000000) : ∀ d i, i + d = a.length → Ev (fun k => skiarealaw08_before.l0 k a b (i : Int)) (lexlt (a.drop i) (b.drop i)) := by
  intro d
  induction d with
  | zero =>
    intro i hi
    rw [List.drop_of_length_le (l := a) (by omega)]
    refine Ev.step (f := fun k => skiarealaw08_before.j1 k a b (i : Int) false) (fun k => by simp only [skiarealaw08_before.l0]; rw [if_neg (by omega)]) ?_
    refine Ev.step (f := fun _ => some false) (fun k => by simp only [skiarealaw08_before.j1]; rw [if_neg (by decide)]) ?_
    have e : lexlt [] (b.drop i) = false := by cases b.drop i <;> rfl
    rw [e]; exact Ev.now _
  | succ d ih =>
    intro i hi
    have h := ih (i + 1) (by omega)
    by_cases hb : i < b.length
    · rw [getD_drop a 0 i (by omega), getD_drop b 0 i hb]
      refine Ev.step (f := fun k => skiarealaw08_before.j1 k a b (i : Int) true) (fun k => by simp only [skiarealaw08_before.l0]; rw [if_pos (by omega), decide_eq_true (by omega)]) ?_
      simp only [lexlt]
      by_cases q : a.getD i 0 = b.getD i 0
      · rw [if_pos q]
        refine Ev.step (f := fun k => skiarealaw08_before.l0 k a b ((i + 1 : Nat) : Int)) (fun k => ?_) h
        simp only [skiarealaw08_before.j1, if_true]
        rw [if_pos (by omega), if_pos (by omega), if_pos (by omega), rd_nat, rd_nat, if_pos q, w64s i a.length (by omega) (by omega)]
      · rw [if_neg q]
        refine Ev.step (f := fun _ => some (decide (a.getD i 0 < b.getD i 0))) (fun k => ?_) (Ev.now _)
        simp only [skiarealaw08_before.j1, if_true]
        rw [if_pos (by omega), if_pos (by omega), if_pos (by omega), rd_nat, rd_nat, if_neg q]
    · rw [List.drop_of_length_le (l := b) (by omega)]
      refine Ev.step (f := fun k => skiarealaw08_before.j1 k a b (i : Int) false) (fun k => by simp only [skiarealaw08_before.l0]; rw [if_pos (by omega), decide_eq_false (by omega)]) ?_
      refine Ev.step (f := fun _ => some false) (fun k => by simp only [skiarealaw08_before.j1]; rw [if_neg (by decide)]) ?_
      have e : lexlt (a.drop i) [] = false := by cases a.drop i <;> rfl
      rw [e]; exact Ev.now _
theorem before_ev (a b : List Int) (hn : a.length ≤ 1000000000000) : Ev (fun k => skiarealaw08_before.f k a b) (lexlt a b) := by
  have h := before_loop a b hn a.length 0 (by omega)
  simpa [skiarealaw08_before.f] using h

theorem alive_ev : Ev (fun k => skiarealaw08_alive.f k) true := by
  have b1 : Ev (fun k => assign_Best.f k [[4, 1, 3], [2, 0, 5], [3, 2, 2]]) ([1, 0, 2], 5, 0) := by
    have h := best_ev [[4, 1, 3], [2, 0, 5], [3, 2, 2]]
    rwa [show bestS [[4, 1, 3], [2, 0, 5], [3, 2, 2]] = ([1, 0, 2], 5, 0) from by decide +kernel] at h
  have b2 : Ev (fun k => assign_Best.f k [[1, 1], [1, 1]]) ([0, 1], 2, 0) := by
    have h := best_ev [[1, 1], [1, 1]]
    rwa [show bestS [[1, 1], [1, 1]] = ([0, 1], 2, 0) from by decide +kernel] at h
  have b3 : Ev (fun k => assign_Best.f k [[7, 5, 5]]) ([1], 5, 0) := by
    have h := best_ev [[7, 5, 5]]
    rwa [show bestS [[7, 5, 5]] = ([1], 5, 0) from by decide +kernel] at h
  have R : RM [[1, 2], [3, 4]] _ := rm_of [[1, 2], [3, 4]] (by decide +kernel)
  have t1 : Ev (fun k => assign_Total.f k [[1, 2], [3, 4]] [1, 0]) (5, true) := by
    have h := total_ev R [1, 0]
    rwa [show totalS [[1, 2], [3, 4]] [1, 0] = (5, true) from by decide +kernel] at h
  have t2 : Ev (fun k => assign_Total.f k [[1, 2], [3, 4]] [1, 1]) (0, false) := by
    have h := total_ev R [1, 1]
    rwa [show totalS [[1, 2], [3, 4]] [1, 1] = (0, false) from by decide +kernel] at h
  have r1 : Ev (fun k => assign_Right.f k [[1], [2]]) 3 := by
    have h := right_ev [[1], [2]]
    rwa [show rightS [[1], [2]] = 3 from by decide +kernel] at h
  have s1 : Ev (fun k => skiarearef08_Same.f k [1, 0, 2] [1, 0, 2]) true := same_ev [1, 0, 2] [1, 0, 2] (by decide)
  have s2 : Ev (fun k => skiarearef08_Same.f k [0, 1] [0, 1]) true := same_ev [0, 1] [0, 1] (by decide)
  have s3 : Ev (fun k => skiarearef08_Same.f k [1] [1]) true := same_ev [1] [1] (by decide)
  unfold skiarealaw08_alive.f
  refine Ev.bind b1 (Ev.bind b2 (Ev.bind b3 (Ev.bind t1 (Ev.bind t2 ?_))))
  simp only [if_true, Bool.false_eq_true, if_false]
  refine Ev.bind r1 ?_
  simp only [if_true]
  refine Ev.bind s1 ?_
  simp only [if_true]
  refine Ev.bind s2 ?_
  simp only [if_true]
  exact Ev.bind s3 (Ev.now _)

/-! ### the laws -/
theorem rights (c : List (List Int)) : ∃ k, skiarealaw08_AssignRights.f k c = some true := by
  refine Ev.rounds (g := fun k => skiarealaw08_AssignRights.f k c) ?_
  unfold skiarealaw08_AssignRights.f
  refine Ev.bind alive_ev ?_
  simp only [if_true]
  refine Ev.bind (small_ev c) ?_
  cases smallB c with
  | false => exact Ev.now _
  | true =>
    simp only [if_true]
    refine Ev.bind (right_ev c) (Ev.bind (ref_right_ev c) ?_)
    simpa using Ev.now true

theorem ok_rm {c : List (List Int)} (h : okB c = true) : RM c (cols c) := by
  unfold okB at h
  by_cases hs : smallB c = true
  · rw [if_pos hs] at h
    exact rm_of c (by simpa using h)
  · rw [if_neg hs] at h; cases h

theorem totals (c : List (List Int)) (p : List Int) : ∃ k, skiarealaw08_AssignTotals.f k c p = some true := by
  refine Ev.rounds (g := fun k => skiarealaw08_AssignTotals.f k c p) ?_
  unfold skiarealaw08_AssignTotals.f
  refine Ev.bind alive_ev ?_
  simp only [if_true]
  refine Ev.bind (ok_ev c) ?_
  have hT : Ev (fun k => skiarealaw08_AssignTotals.j0 k c p true) true := Ev.step (f := fun _ => some true) (fun k => by simp only [skiarealaw08_AssignTotals.j0, if_true]) (Ev.now _)
  cases h : okB c with
  | false => simp only [Bool.false_eq_true, if_false]; exact hT
  | true =>
    simp only [if_true]
    by_cases hp : ((p.length : Int) > 100)
    · simp only [decide_eq_true hp]; exact hT
    · simp only [decide_eq_false hp]
      have R := ok_rm h
      refine Ev.step (f := fun k => (assign_Total.f k c p).bind fun bt258 => ((skiarearef08_Total.f k c p).bind fun bt260 => (if bt258.1 = bt260.1 then (some (bt258.2 == bt260.2)) else (none)))) (fun k => by simp only [skiarealaw08_AssignTotals.j0]; rw [if_neg (by decide)]) ?_
      refine Ev.bind (total_ev R p) (Ev.bind (ref_total_ev R p) ?_)
      simpa using Ev.now true

theorem pick_len {c : List (List Int)} {w : Nat} (R : RM c w) : (pick c 0).length = c.length := by
  obtain ⟨_, h, _⟩ := opt_spec c 0 w R.start
  exact Vd_len _ _ _ h

theorem bestS_len (c : List (List Int)) : (bestS c).1.length ≤ 1000000000000 := by
  unfold bestS
  by_cases h : rightS c = 0
  · rw [if_pos h]
    have R := rm_of c h
    have a := R.room
    have b := R.w8
    rw [show (pick c 0, opt c 0, (0 : Int)).1 = pick c 0 from rfl, pick_len R]; omega
  · rw [if_neg h]; simp

theorem bests (c : List (List Int)) : ∃ k, skiarealaw08_AssignBests.f k c = some true := by
  refine Ev.rounds (g := fun k => skiarealaw08_AssignBests.f k c) ?_
  unfold skiarealaw08_AssignBests.f
  refine Ev.bind alive_ev ?_
  simp only [if_true]
  refine Ev.bind (small_ev c) ?_
  cases smallB c with
  | false => exact Ev.now _
  | true =>
    simp only [if_true]
    refine Ev.bind (best_ev c) (Ev.bind (ref_best_ev c) (Ev.bind (same_ev _ _ (bestS_len c)) ?_))
    simpa using Ev.now true

theorem total_of {c : List (List Int)} {p : List Int} (h : Vd c 0 p) : totalS c p = (sm c p, true) := by
  unfold totalS
  rw [if_pos (Vd_len _ _ _ h), tot_vd c p 0 0 (Vd_len _ _ _ h) h, Int.zero_add]
theorem total_not {c : List (List Int)} {p : List Int} (h : ¬ Vd c 0 p) : totalS c p = (0, false) := by
  unfold totalS
  by_cases hl : p.length = c.length
  · rw [if_pos hl, tot_not c p 0 0 hl h]
  · rw [if_neg hl]

theorem bestS_rm {c : List (List Int)} {w : Nat} (R : RM c w) : bestS c = (pick c 0, opt c 0, 0) := by
  unfold bestS; rw [if_pos (right_of R)]

theorem best_law (c : List (List Int)) (o : List Int) : ∃ k, skiarealaw08_AssignBest.f k c o = some true := by
  refine Ev.rounds (g := fun k => skiarealaw08_AssignBest.f k c o) ?_
  unfold skiarealaw08_AssignBest.f
  refine Ev.bind alive_ev ?_
  simp only [if_true]
  refine Ev.bind (ok_ev c) ?_
  have hT : Ev (fun k => skiarealaw08_AssignBest.j0 k c o true) true := Ev.step (f := fun _ => some true) (fun k => by simp only [skiarealaw08_AssignBest.j0, if_true]) (Ev.now _)
  cases h : okB c with
  | false => simp only [Bool.false_eq_true, if_false]; exact hT
  | true =>
    simp only [if_true]
    by_cases hp : ((o.length : Int) > 100)
    · simp only [decide_eq_true hp]; exact hT
    · simp only [decide_eq_false hp]
      have R := ok_rm h
      obtain ⟨o1, o2, o3, o4⟩ := opt_spec c 0 _ R.start
      have hb := best_ev c
      rw [bestS_rm R] at hb
      have ht := total_ev R (pick c 0)
      rw [total_of o2, o3] at ht
      refine Ev.step (f := fun k => (assign_Best.f k c).bind fun bt309 => ((assign_Total.f k c bt309.1).bind fun bt314 => (if bt309.2.2 = 0 then (if bt314.2 = true then (skiarealaw08_AssignBest.j1 k c o bt309.1 bt309.2.1 (bt314.1 != bt309.2.1)) else (skiarealaw08_AssignBest.j1 k c o bt309.1 bt309.2.1 true)) else (skiarealaw08_AssignBest.j1 k c o bt309.1 bt309.2.1 true)))) (fun k => by simp only [skiarealaw08_AssignBest.j0]; rw [if_neg (by decide)]) ?_
      refine Ev.bind hb (Ev.bind ht ?_)
      simp only [if_true, bne_self_eq_false]
      refine Ev.step (f := fun k => (assign_Total.f k c o).bind fun bt316 => (if bt316.2 = true then (if opt c 0 < bt316.1 then (some true) else (if opt c 0 = bt316.1 then ((skiarealaw08_before.f k o (pick c 0)).bind fun t318 => (some (!t318))) else (none))) else (some true))) (fun k => by simp only [skiarealaw08_AssignBest.j1]; rw [if_neg (by decide)]) ?_
      refine Ev.bind (total_ev R o) ?_
      by_cases hv : Vd c 0 o
      · rw [total_of hv]
        obtain ⟨l1, l2⟩ := o4 o hv
        simp only [if_true]
        by_cases q : opt c 0 < sm c o
        · simp only [if_pos q]; exact Ev.now _
        · have e : opt c 0 = sm c o := by omega
          simp only [if_neg q, if_pos e]
          have hbf := before_ev o (pick c 0) (by omega)
          rw [l2 e.symm] at hbf
          exact Ev.bind hbf (Ev.now _)
      · rw [total_not hv]
        simp only [Bool.false_eq_true, if_false]
        exact Ev.now _

/-! ### a further column -/
def wideL (c : List (List Int)) (col : List Int) : List (List Int) := List.zipWith (fun r x => r ++ [x]) c col
theorem wide_len (c : List (List Int)) (col : List Int) (h : c.length ≤ col.length) : (wideL c col).length = c.length := by
  unfold wideL; rw [List.length_zipWith]; omega
theorem wide_at (c : List (List Int)) (col : List Int) (h : c.length ≤ col.length) {i : Nat} (hi : i < c.length) : (wideL c col).getD i [] = c.getD i [] ++ [col.getD i 0] := by
  have h1 : i < (wideL c col).length := by rw [wide_len c col h]; exact hi
  rw [List.getD_eq_getElem?_getD, List.getElem?_eq_getElem h1, List.getD_eq_getElem?_getD, List.getElem?_eq_getElem hi, List.getD_eq_getElem?_getD, List.getElem?_eq_getElem (by omega)]
  simp [wideL]
theorem wide_take (c : List (List Int)) (col : List Int) (h : c.length ≤ col.length) {i : Nat} (hi : i < c.length) : (wideL c col).take i ++ [c.getD i [] ++ [col.getD i 0]] = (wideL c col).take (i + 1) := by
  have h1 : i < (wideL c col).length := by rw [wide_len c col h]; exact hi
  rw [List.take_succ_eq_append_getElem h1, ← wide_at c col h hi, List.getD_eq_getElem?_getD, List.getElem?_eq_getElem h1]; rfl

theorem wide_vd (c : List (List Int)) : ∀ (col : List Int) (u : Nat) (p : List Int), c.length ≤ col.length → Vd c u p → Vd (wideL c col) u p ∧ sm (wideL c col) p = sm c p := by
  induction c with
  | nil => intro col u p _ h; cases p with
    | nil => exact ⟨by simp [wideL, Vd], by simp [wideL, sm]⟩
    | cons x xs => exact absurd h (by simp [Vd])
  | cons r rs ih =>
    intro col u p hl hv
    cases p with
    | nil => exact absurd hv (by simp [Vd])
    | cons x xs =>
      cases col with
      | nil => simp at hl
      | cons y ys =>
        obtain ⟨v1, v2, v3, v4⟩ := hv
        obtain ⟨a, b⟩ := ih ys _ xs (by simpa using hl) v4
        have e : wideL (r :: rs) (y :: ys) = (r ++ [y]) :: wideL rs ys := rfl
        rw [e]
        refine ⟨⟨v1, by simp only [List.length_append, List.length_singleton]; omega, v3, a⟩, ?_⟩
        simp only [sm]
        rw [b, List.getD_eq_getElem?_getD, List.getElem?_append_left (by omega), ← List.getD_eq_getElem?_getD]

theorem wider (c : List (List Int)) (col : List Int) : ∃ k, skiarealaw08_AssignWider.f k c col = some true := by
  refine Ev.rounds (g := fun k => skiarealaw08_AssignWider.f k c col) ?_
  unfold skiarealaw08_AssignWider.f
  refine Ev.bind alive_ev ?_
  simp only [if_true]
  refine Ev.bind (ok_ev c) ?_
  have hT : Ev (fun k => skiarealaw08_AssignWider.j0 k c col true) true := Ev.step (f := fun _ => some true) (fun k => by simp only [skiarealaw08_AssignWider.j0, if_true]) (Ev.now _)
  cases h : okB c with
  | false => simp only [Bool.false_eq_true, if_false]; exact hT
  | true =>
    simp only [if_true]
    by_cases hp : ((col.length : Int) < (c.length : Int))
    · simp only [decide_eq_true hp]; exact hT
    · simp only [decide_eq_false hp]
      have R := ok_rm h
      have hroom := R.room
      have h8 := R.w8
      have hle : c.length ≤ col.length := by omega
      refine Ev.step (f := fun k => skiarealaw08_AssignWider.l0 k c col [] ((0 : Nat) : Int)) (fun k => by simp only [skiarealaw08_AssignWider.j0]; rw [if_neg (by decide)]; rfl) ?_
      have key : ∀ d i, i + d = c.length → Ev (fun k => skiarealaw08_AssignWider.l0 k c col ((wideL c col).take i) (i : Int)) true := by
        intro d
        induction d with
        | zero =>
          intro i hi
          rw [List.take_of_length_le (by rw [wide_len c col hle]; omega)]
          have hb := best_ev c
          rw [bestS_rm R] at hb
          refine Ev.step (f := fun k => (assign_Best.f k c).bind fun bt332 => ((assign_Best.f k (wideL c col)).bind fun bt337 => (if bt332.2.2 = 0 then (if bt337.2.2 = 0 then (some (decide (bt337.2.1 ≤ bt332.2.1))) else (some true)) else (none)))) (fun k => by simp only [skiarealaw08_AssignWider.l0]; rw [if_neg (by omega)]) ?_
          refine Ev.bind hb (Ev.bind (best_ev (wideL c col)) ?_)
          simp only [if_true]
          unfold bestS
          by_cases hw : rightS (wideL c col) = 0
          · simp only [if_pos hw, if_true]
            obtain ⟨_, o2, o3, _⟩ := opt_spec c 0 _ R.start
            obtain ⟨w1, w2⟩ := wide_vd c col 0 _ hle o2
            obtain ⟨_, _, _, q4⟩ := opt_spec (wideL c col) 0 _ (rm_of _ hw).start
            have := (q4 _ w1).1
            rw [decide_eq_true (by omega)]
            exact Ev.now _
          · simp only [if_neg hw]
            exact Ev.now _
        | succ d ih =>
          intro i hi
          have hic : i < c.length := by omega
          have hw := R.at hic
          have hn := ih (i + 1) (by omega)
          rw [← wide_take c col hle hic] at hn
          refine Ev.step (f := fun k => skiarealaw08_AssignWider.l0 k c col ((wideL c col).take i ++ [c.getD i [] ++ [col.getD i 0]]) ((i + 1 : Nat) : Int)) (fun k => ?_) hn
          simp only [skiarealaw08_AssignWider.l0]
          rw [if_pos (by omega), if_pos (by omega), rdL_nat, if_pos (by simp only [List.length_nil]; omega)]
          simp only [List.nil_append, Option.bind_some]
          rw [if_pos (by omega), if_pos (by omega), if_pos (by rw [List.length_take]; omega), rd_nat, w64s i c.length hic (by omega)]
      have := key c.length 0 (by omega)
      simpa using this

/-! ### a constant that is added to a row -/
def shiftL : List (List Int) → Nat → Int → List (List Int)
  | [], _, _ => []
  | r :: rs, 0, by' => (r.map (· + by')) :: rs
  | r :: rs, i + 1, by' => r :: shiftL rs i by'
theorem shift_len (c : List (List Int)) : ∀ i b, (shiftL c i b).length = c.length := by
  induction c with
  | nil => intro i b; rfl
  | cons r rs ih => intro i b; cases i with
    | zero => rfl
    | succ i => simp only [shiftL, List.length_cons, ih]
theorem shift_at (c : List (List Int)) : ∀ (i : Nat) (b : Int) (j : Nat), j < c.length → (shiftL c i b).getD j [] = if j = i then (c.getD j []).map (· + b) else c.getD j [] := by
  induction c with
  | nil => intro i b j hj; simp at hj
  | cons r rs ih =>
    intro i b j hj
    cases i with
    | zero => cases j with
      | zero => simp [shiftL]
      | succ j => simp [shiftL]
    | succ i => cases j with
      | zero => simp [shiftL]
      | succ j =>
        have := ih i b j (by simpa using hj)
        simpa [shiftL] using this
theorem shift_take (c : List (List Int)) (row : Nat) (b : Int) {i : Nat} (hi : i < c.length) : (shiftL c row b).take i ++ [if i = row then (c.getD i []).map (· + b) else c.getD i []] = (shiftL c row b).take (i + 1) := by
  have h1 : i < (shiftL c row b).length := by rw [shift_len]; exact hi
  rw [List.take_succ_eq_append_getElem h1, ← shift_at c row b i hi, List.getD_eq_getElem?_getD, List.getElem?_eq_getElem h1]; rfl

theorem getD_map (r : List Int) (b : Int) (j : Nat) (hj : j < r.length) : (r.map (· + b)).getD j 0 = r.getD j 0 + b := by
  rw [List.getD_eq_getElem?_getD, List.getElem?_map, List.getElem?_eq_getElem hj, List.getD_eq_getElem?_getD, List.getElem?_eq_getElem hj]; rfl

/-- The best of f + b is the best of f, and b more. -/
theorem best1_shift (f g : Nat → Int) (u : Nat) (b : Int) (d : Nat) : ∀ (j : Nat) (v v' : Int), (∀ i, j ≤ i → i < j + d → u.testBit i = false → 0 ≤ f i ∧ g i = f i + b) → 0 ≤ b → (v = -1 ∧ v' = -1 ∨ 0 ≤ v ∧ v' = v + b) →
    (best1 f u d j v = -1 ∧ best1 g u d j v' = -1 ∨ 0 ≤ best1 f u d j v ∧ best1 g u d j v' = best1 f u d j v + b) := by
  induction d with
  | zero => intro j v v' _ _ h; exact h
  | succ d ih =>
    intro j v v' hf hb h
    simp only [best1]
    by_cases ht : u.testBit j = true
    · rw [if_pos ht, if_pos ht]
      exact ih _ _ _ (fun i h1 h2 => hf i (by omega) (by omega)) hb h
    · rw [if_neg ht, if_neg ht]
      obtain ⟨f1, f2⟩ := hf j (Nat.le_refl _) (by omega) (by simpa using ht)
      by_cases q : v < 0 ∨ f j < v
      · rw [if_pos q, if_pos (by omega)]
        exact ih _ _ _ (fun i h1 h2 => hf i (by omega) (by omega)) hb (.inr ⟨f1, f2⟩)
      · rw [if_neg q, if_neg (by omega)]
        exact ih _ _ _ (fun i h1 h2 => hf i (by omega) (by omega)) hb h
theorem pickj_shift (f g : Nat → Int) (u : Nat) (b v : Int) (d : Nat) : ∀ j, (∀ i, j ≤ i → i < j + d → u.testBit i = false → g i = f i + b) → pickj g u (v + b) d j = pickj f u v d j := by
  induction d with
  | zero => intro j _; rfl
  | succ d ih =>
    intro j h
    simp only [pickj]
    rw [ih (j + 1) (fun i h1 h2 => h i (by omega) (by omega))]
    by_cases ht : u.testBit j = false
    · have e := h j (Nat.le_refl _) (by omega) ht
      by_cases q : f j = v
      · rw [if_pos ⟨ht, (by omega : g j = v + b)⟩, if_pos ⟨ht, q⟩]
      · rw [if_neg (fun z => q (by have := z.2; omega)), if_neg (fun z => q z.2)]
    · rw [if_neg (fun z => ht z.1), if_neg (fun z => ht z.1)]

theorem shift_spec (c : List (List Int)) : ∀ (row : Nat) (b : Int) (u w : Nat), 0 ≤ b → row < c.length → Room c u w → opt (shiftL c row b) u = opt c u + b ∧ pick (shiftL c row b) u = pick c u := by
  induction c with
  | nil => intro row b u w _ hr; simp at hr
  | cons r rs ih =>
    intro row b u w hb hr R
    have hw := R.wide r (by simp)
    have hopt := (opt_spec (r :: rs) u w R).1
    have hpos : ∀ i, i < w → u.testBit i = false → 0 ≤ r.getD i 0 + opt rs (u ||| 1 <<< i) := by
      intro i h2 h3
      have a := cell_at (R.cell r (by simp)) i
      have b := (opt_spec rs _ w (R.next h2 h3)).1
      omega
    obtain ⟨m, e1, e2, e3, e4⟩ := pick_ex R
    cases row with
    | zero =>
      have hg : ∀ i, i < w → u.testBit i = false → (r.map (· + b)).getD i 0 + opt rs (u ||| 1 <<< i) = r.getD i 0 + opt rs (u ||| 1 <<< i) + b := by
        intro i hi _; rw [getD_map r b i (by omega)]; omega
      have eo : opt (shiftL (r :: rs) 0 b) u = opt (r :: rs) u + b := by
        simp only [shiftL, opt, List.length_map]
        simp only [opt] at hopt
        rw [hw] at hopt ⊢
        rcases best1_shift (fun j => r.getD j 0 + opt rs (u ||| 1 <<< j)) (fun j => (r.map (· + b)).getD j 0 + opt rs (u ||| 1 <<< j)) u b w 0 (-1) (-1) (fun i _ h2 h3 => ⟨hpos i (by omega) h3, hg i (by omega) h3⟩) hb (.inl ⟨rfl, rfl⟩) with ⟨z, _⟩ | ⟨_, z⟩
        · omega
        · exact z
      refine ⟨eo, ?_⟩
      rw [e4]
      have ep : pickj (fun j => (r.map (· + b)).getD j 0 + opt rs (u ||| 1 <<< j)) u (opt (shiftL (r :: rs) 0 b) u) w 0 = some m := by
        rw [eo, pickj_shift (fun j => r.getD j 0 + opt rs (u ||| 1 <<< j)) _ u b _ w 0 (fun i _ h2 h3 => hg i (by omega) h3)]; exact e1
      show pick ((r.map (· + b)) :: rs) u = _
      simp only [pick, List.length_map]
      rw [hw]
      rw [show opt ((r.map (· + b)) :: rs) u = opt (shiftL (r :: rs) 0 b) u from rfl, ep]
    | succ row =>
      have hr' : row < rs.length := by simpa using hr
      have hg : ∀ i, i < w → u.testBit i = false → r.getD i 0 + opt (shiftL rs row b) (u ||| 1 <<< i) = r.getD i 0 + opt rs (u ||| 1 <<< i) + b := by
        intro i hi h3; rw [(ih row b _ w hb hr' (R.next hi h3)).1]; omega
      have eo : opt (shiftL (r :: rs) (row + 1) b) u = opt (r :: rs) u + b := by
        simp only [shiftL, opt]
        simp only [opt] at hopt
        rw [hw] at hopt ⊢
        rcases best1_shift (fun j => r.getD j 0 + opt rs (u ||| 1 <<< j)) (fun j => r.getD j 0 + opt (shiftL rs row b) (u ||| 1 <<< j)) u b w 0 (-1) (-1) (fun i _ h2 h3 => ⟨hpos i (by omega) h3, hg i (by omega) h3⟩) hb (.inl ⟨rfl, rfl⟩) with ⟨z, _⟩ | ⟨_, z⟩
        · omega
        · exact z
      refine ⟨eo, ?_⟩
      rw [e4]
      have ep : pickj (fun j => r.getD j 0 + opt (shiftL rs row b) (u ||| 1 <<< j)) u (opt (shiftL (r :: rs) (row + 1) b) u) w 0 = some m := by
        rw [eo, pickj_shift (fun j => r.getD j 0 + opt rs (u ||| 1 <<< j)) _ u b _ w 0 (fun i _ h2 h3 => hg i (by omega) h3)]; exact e1
      show pick (r :: shiftL rs row b) u = _
      simp only [pick]
      rw [hw]
      rw [show opt (r :: shiftL rs row b) u = opt (shiftL (r :: rs) (row + 1) b) u from rfl, ep]
      simp only []
      rw [(ih row b _ w hb hr' (R.next e2 e3)).2]

theorem shift_wide {c : List (List Int)} {w : Nat} (R : RM c w) (row : Nat) (b : Int) : ∀ r ∈ shiftL c row b, r.length = w := by
  intro r hr
  obtain ⟨j, hj, rfl⟩ := List.mem_iff_getElem.1 hr
  have hj' : j < c.length := by rw [shift_len] at hj; exact hj
  have h := shift_at c row b j hj'
  rw [List.getD_eq_getElem?_getD, List.getElem?_eq_getElem hj] at h
  simp only [Option.getD_some] at h
  rw [h]
  split
  · rw [List.length_map]; exact R.at hj'
  · exact R.at hj'
/-- The turned matrix is right, or a number is out of its range. -/
theorem shift_right {c : List (List Int)} {w : Nat} (R : RM c w) (row : Nat) (b : Int) : rightS (shiftL c row b) = 0 ∨ rightS (shiftL c row b) = 2 := by
  have hw := shift_wide R row b
  have hr := R.room
  have h8 := R.w8
  unfold rightS
  rw [shift_len, if_neg (by omega), if_neg, if_neg]
  · split
    · exact .inr rfl
    · exact .inl rfl
  · intro z
    obtain ⟨r, hm, z⟩ := List.any_eq_true.1 z
    have a := hw r hm
    have b' := hw _ (getD_mem (shiftL c row b) [] 0 (List.length_pos_of_mem hm))
    unfold formB at z; rw [shift_len] at z; simp only [decide_eq_true_eq] at z; omega
  · intro z
    obtain ⟨r, hm, z⟩ := List.any_eq_true.1 z
    have a := hw r hm
    unfold longB at z; simp only [decide_eq_true_eq] at z; omega

theorem shifts (c : List (List Int)) (row b : Int) : ∃ k, skiarealaw08_AssignShifts.f k c row b = some true := by
  refine Ev.rounds (g := fun k => skiarealaw08_AssignShifts.f k c row b) ?_
  unfold skiarealaw08_AssignShifts.f
  refine Ev.bind alive_ev ?_
  simp only [if_true]
  refine Ev.bind (ok_ev c) ?_
  have hT : Ev (fun k => skiarealaw08_AssignShifts.j0 k c row b true) true := Ev.step (f := fun _ => some true) (fun k => by simp only [skiarealaw08_AssignShifts.j0, if_true]) (Ev.now _)
  cases h : okB c with
  | false => simp only [Bool.false_eq_true, if_false]; exact hT
  | true =>
    simp only [if_true]
    by_cases h1 : row < 0
    · simp only [if_pos h1]; exact hT
    simp only [if_neg h1]
    by_cases h2 : row ≥ (c.length : Int)
    · simp only [if_pos h2]; exact hT
    simp only [if_neg h2]
    by_cases h3 : b < 0
    · simp only [if_pos h3]; exact hT
    simp only [if_neg h3]
    by_cases h4 : b > 1000000
    · simp only [decide_eq_true h4]; exact hT
    simp only [decide_eq_false h4]
    obtain ⟨row, rfl⟩ : ∃ n : Nat, row = n := ⟨row.toNat, by omega⟩
    have R := ok_rm h
    have hroom := R.room
    have h8 := R.w8
    refine Ev.step (f := fun k => skiarealaw08_AssignShifts.l0 k c (row : Int) b [] ((0 : Nat) : Int)) (fun k => by simp only [skiarealaw08_AssignShifts.j0]; rw [if_neg (by decide)]; rfl) ?_
    have inner : ∀ i, i < c.length → ∀ (M : List (List Int)), M.length ≤ 8 → ∀ X, Ev (fun k => skiarealaw08_AssignShifts.l0 k c (row : Int) b (M ++ [if i = row then (c.getD i []).map (· + b) else c.getD i []]) ((i + 1 : Nat) : Int)) X →
        ∀ d j, j + d = (c.getD i []).length → Ev (fun k => skiarealaw08_AssignShifts.l1 k c (row : Int) b M (i : Int) ((if i = row then (c.getD i []).map (· + b) else c.getD i []).take j) (j : Int)) X := by
      intro i hi M hM X hX d
      have hw := R.at hi
      generalize hN : (if i = row then (c.getD i []).map (· + b) else c.getD i []) = N at *
      have hNl : N.length = (c.getD i []).length := by rw [← hN]; split <;> simp
      induction d with
      | zero =>
        intro j hj
        rw [List.take_of_length_le (by omega)]
        refine Ev.step (f := fun k => skiarealaw08_AssignShifts.l0 k c (row : Int) b (M ++ [N]) ((i + 1 : Nat) : Int)) (fun k => ?_) hX
        simp only [skiarealaw08_AssignShifts.l1]
        rw [if_pos (by omega), if_pos (by omega), rdL_nat, if_neg (by omega), if_pos (by omega), w64s i c.length hi (by omega)]
      | succ d ih =>
        intro j hj
        have hjN : j < N.length := by omega
        have hn := ih (j + 1) (by omega)
        rw [List.take_succ_eq_append_getElem hjN] at hn
        have hc := cell_at (R.cells hi) j
        have eN : N[j] = if i = row then (c.getD i []).getD j 0 + b else (c.getD i []).getD j 0 := by
          have : N.getD j 0 = N[j] := by rw [List.getD_eq_getElem?_getD, List.getElem?_eq_getElem hjN]; rfl
          rw [← this, ← hN]
          by_cases q : i = row
          · rw [if_pos q, if_pos q, getD_map _ _ _ (by omega)]
          · rw [if_neg q, if_neg q]
        refine Ev.step (f := fun k => skiarealaw08_AssignShifts.l1 k c (row : Int) b M (i : Int) (N.take j ++ [N[j]]) ((j + 1 : Nat) : Int)) (fun k => ?_) hn
        have hlt : (N.take j).length < 17592186044416 := by rw [List.length_take]; omega
        simp only [skiarealaw08_AssignShifts.l1]
        rw [if_pos (by omega), if_pos (by omega), rdL_nat, if_pos (by omega), if_pos (by omega), rd_nat, w64s j _ (show j < (c.getD i []).length by omega) (by omega), eN]
        by_cases q : i = row
        · rw [if_pos (by omega), if_pos hlt, if_pos q, w64 (by omega) (by omega)]
        · rw [if_neg (by omega), if_pos hlt, if_neg q]
    have key : ∀ d i, i + d = c.length → Ev (fun k => skiarealaw08_AssignShifts.l0 k c (row : Int) b ((shiftL c row b).take i) (i : Int)) true := by
      intro d
      induction d with
      | zero =>
        intro i hi
        rw [List.take_of_length_le (by rw [shift_len]; omega)]
        have hb := best_ev c
        rw [bestS_rm R] at hb
        have hb2 := best_ev (shiftL c row b)
        refine Ev.step (f := fun k => (assign_Best.f k c).bind fun bt356 => ((assign_Best.f k (shiftL c row b)).bind fun bt361 => (if bt361.2.2 = 0 then (if bt356.2.2 = 0 then ((skiarearef08_Same.f k bt356.1 bt361.1).bind fun t366 => (if t366 = true then (some (bt361.2.1 == (wrap64 (bt356.2.1 + b)))) else (none))) else (none)) else (if bt361.2.2 = 2 then (some (bt356.2.2 == 0)) else (none))))) (fun k => by simp only [skiarealaw08_AssignShifts.l0]; rw [if_neg (by omega)]) ?_
        refine Ev.bind hb (Ev.bind hb2 ?_)
        unfold bestS
        by_cases hw : rightS (shiftL c row b) = 0
        · simp only [if_pos hw, if_true]
          obtain ⟨s1, s2⟩ := shift_spec c row b 0 _ (by omega) (by omega) R.start
          have hlen := pick_len R
          have hsame := same_ev (pick c 0) (pick (shiftL c row b) 0) (by omega)
          rw [s2, decide_eq_true rfl] at hsame
          rw [s2]
          refine Ev.bind hsame ?_
          simp only [if_true]
          have hbd := opt_bd c 0 R.cell
          rw [s1, w64 (by omega) (by omega)]
          simpa using Ev.now true
        · have h2 : rightS (shiftL c row b) = 2 := by rcases shift_right R row b with z | z; exact absurd z hw; exact z
          simp only [h2]
          exact Ev.now _
      | succ d ih =>
        intro i hi
        have hic : i < c.length := by omega
        have hn := ih (i + 1) (by omega)
        rw [← shift_take c row b hic] at hn
        have hI := inner i hic ((shiftL c row b).take i) (by rw [List.length_take]; omega) true hn (c.getD i []).length 0 (by omega)
        rw [List.take_zero] at hI
        exact Ev.step (f := fun k => skiarealaw08_AssignShifts.l1 k c (row : Int) b ((shiftL c row b).take i) (i : Int) [] ((0 : Nat) : Int)) (fun k => by simp only [skiarealaw08_AssignShifts.l0]; rw [if_pos (by omega)]; rfl) hI
    have := key c.length 0 (by omega)
    simpa using this
end Go.Proofs.Ytjhgmhncannpaaa.PP
