/- The plain law of AssignRows, and its walk over what came in. No conditions beyond those that each theorem states. -/
import Derived.Test.YtjhgmhncannpaaaPureC
import Derived.Test.YtjhgmhncannpaaaRowsWalk
namespace Go.Proofs.Ytjhgmhncannpaaa.PP
open Go.RowKit Go.Proofs.YtjhgmhncannpaaaW.PrintWords Go.Proofs.YtjhgmhncannpaaaW.PrintLast Go.Proofs.YtjhgmhncannpaaaW.PrintMore
set_option linter.unusedVariables false
set_option linter.unusedSimpArgs false
/-! ### rows in another order, a row of zeros -/
theorem bit_set (u a b : Nat) : (u ||| 1 <<< a).testBit b = (u.testBit b || decide (a = b)) := by
  rw [Nat.testBit_or, Nat.one_shiftLeft, Nat.testBit_two_pow]
theorem bit_new {u a b : Nat} (h : (u ||| 1 <<< a).testBit b = false) : u.testBit b = false ∧ a ≠ b := by
  rw [bit_set, Bool.or_eq_false_iff] at h
  exact ⟨h.1, of_decide_eq_false h.2⟩
theorem perm_vd {c c' : List (List Int)} (h : c.Perm c') : ∀ (u : Nat) (p' : List Int), Vd c' u p' → ∃ p, Vd c u p ∧ sm c p = sm c' p' := by
  induction h with
  | nil => intro u p' h; exact ⟨p', h, rfl⟩
  | cons r _ ih =>
    intro u p' h
    cases p' with
    | nil => exact absurd h (by simp [Vd])
    | cons x xs =>
      obtain ⟨h1, h2, h3, h4⟩ := h
      obtain ⟨p, g1, g2⟩ := ih _ xs h4
      exact ⟨x :: p, ⟨h1, h2, h3, g1⟩, by simp only [sm]; rw [g2]⟩
  | swap r s l =>
    intro u p' h
    cases p' with
    | nil => exact absurd h (by simp [Vd])
    | cons x xs =>
      cases xs with
      | nil => exact absurd h.2.2.2 (by simp [Vd])
      | cons y ys =>
        obtain ⟨h1, h2, h3, h4, h5, h6, h7⟩ := h
        obtain ⟨b1, b2⟩ := bit_new h6
        refine ⟨y :: x :: ys, ⟨h4, h5, b1, h1, h2, ?_, ?_⟩, by simp only [sm]; omega⟩
        · rw [bit_set, h3, decide_eq_false (fun z => b2 z.symm)]; rfl
        · rw [Nat.or_assoc, Nat.or_comm (1 <<< y.toNat), ← Nat.or_assoc]; exact h7
  | trans _ _ ih1 ih2 =>
    intro u p' h
    obtain ⟨p, g1, g2⟩ := ih2 u p' h
    obtain ⟨q, e1, e2⟩ := ih1 u p g1
    exact ⟨q, e1, e2.trans g2⟩
theorem perm_rm {c c' : List (List Int)} {w : Nat} (h : c.Perm c') (R : RM c w) : RM c' w where
  wide := fun r hr => R.wide r (h.mem_iff.2 hr)
  cell := fun r hr => R.cell r (h.mem_iff.2 hr)
  w8 := R.w8
  room := by rw [← h.length_eq]; exact R.room
theorem perm_le {c c' : List (List Int)} {w : Nat} (h : c.Perm c') (R : RM c w) : opt c 0 ≤ opt c' 0 := by
  obtain ⟨_, b2, b3, _⟩ := opt_spec c' 0 w (perm_rm h R).start
  obtain ⟨p, g1, g2⟩ := perm_vd h 0 _ b2
  have := ((opt_spec c 0 w R.start).2.2.2 p g1).1
  omega
theorem perm_opt {c c' : List (List Int)} {w : Nat} (h : c.Perm c') (R : RM c w) : opt c 0 = opt c' 0 := by
  have := perm_le h R
  have := perm_le h.symm (perm_rm h R)
  omega
/-- Columns that are taken may be given back, or others may be. -/
theorem vd_ext (rs : List (List Int)) : ∀ (u v : Nat) (p : List Int), Vd rs u p → (∀ x ∈ p, u.testBit x.toNat = false → v.testBit x.toNat = false) → Vd rs v p := by
  induction rs with
  | nil => intro u v p h _; cases p with
    | nil => trivial
    | cons x xs => exact absurd h (by simp [Vd])
  | cons r rs ih =>
    intro u v p h hv
    cases p with
    | nil => exact absurd h (by simp [Vd])
    | cons x xs =>
      obtain ⟨h1, h2, h3, h4⟩ := h
      refine ⟨h1, h2, hv x (by simp) h3, ih _ _ xs h4 (fun y hy hu => ?_)⟩
      obtain ⟨b1, b2⟩ := bit_new hu
      rw [bit_set, hv y (by simp [hy]) b1, decide_eq_false b2]; rfl
/-- The columns that are taken in the end. -/
theorem vd_used (rs : List (List Int)) : ∀ (u w : Nat) (p : List Int), Room rs u w → Vd rs u p → ∃ U, U < 2 ^ w ∧ pc U = pc u + rs.length ∧ (∀ i, u.testBit i = true → U.testBit i = true) ∧ ∀ x ∈ p, U.testBit x.toNat = true := by
  induction rs with
  | nil => intro u w p R h; cases p with
    | nil => exact ⟨u, R.lt, rfl, fun i h => h, fun x hx => by simp at hx⟩
    | cons x xs => exact absurd h (by simp [Vd])
  | cons r rs ih =>
    intro u w p R h
    cases p with
    | nil => exact absurd h (by simp [Vd])
    | cons x xs =>
      obtain ⟨h1, h2, h3, h4⟩ := h
      have hw := R.wide r (by simp)
      have h8 := R.w8
      obtain ⟨U, a1, a2, a3, a4⟩ := ih _ w xs (R.next (j := x.toNat) (by omega) h3) h4
      refine ⟨U, a1, ?_, fun i hi => a3 i (by rw [bit_set, hi]; rfl), fun y hy => ?_⟩
      · rw [a2, pc_set R.lt256 (by omega) h3, List.length_cons]; omega
      · rcases List.mem_cons.1 hy with rfl | hy
        · exact a3 _ (by rw [bit_set, decide_eq_true rfl, Bool.or_true])
        · exact a4 y hy
theorem rm_tail {r : List Int} {rs : List (List Int)} {w : Nat} (R : RM (r :: rs) w) : RM rs w where
  wide := fun x hx => R.wide x (by simp [hx])
  cell := fun x hx => R.cell x (by simp [hx])
  w8 := R.w8
  room := by have := R.room; simp only [List.length_cons] at this; omega
theorem opt_tail {r : List Int} {rs : List (List Int)} {w : Nat} (R : RM (r :: rs) w) : opt rs 0 ≤ opt (r :: rs) 0 := by
  obtain ⟨_, b2, b3, _⟩ := opt_spec (r :: rs) 0 w R.start
  generalize pick (r :: rs) 0 = p at b2 b3
  cases p with
  | nil => exact absurd b2 (by simp [Vd])
  | cons x xs =>
    have v := vd_ext rs _ 0 xs b2.2.2.2 (fun y _ _ => by simp)
    have := ((opt_spec rs 0 w (rm_tail R).start).2.2.2 xs v).1
    have := (cell_at (R.cell r (by simp)) x.toNat).1
    simp only [sm] at b3
    omega
theorem opt_zero {r : List Int} {rs : List (List Int)} {w : Nat} (R : RM (r :: rs) w) (hz : ∀ i, r.getD i 0 = 0) : opt (r :: rs) 0 = opt rs 0 := by
  have S := (rm_tail R).start
  obtain ⟨_, b2, b3, _⟩ := opt_spec rs 0 w S
  obtain ⟨U, a1, a2, a3, a4⟩ := vd_used rs 0 w _ S b2
  have hroom := R.room
  have h8 := R.w8
  rw [List.length_cons] at hroom
  obtain ⟨j, j1, j2⟩ := free (u := U) (w := w) (Nat.lt_of_lt_of_le a1 (pow_le h8)) h8 (by rw [a2, show pc 0 = 0 from by decide]; omega)
  have v : Vd (r :: rs) 0 ((j : Int) :: pick rs 0) := by
    refine ⟨by omega, by have := R.wide r (by simp); omega, by simp, vd_ext rs 0 _ _ b2 (fun y hy _ => ?_)⟩
    rw [bit_set, show (0 : Nat).testBit y.toNat = false from by simp, decide_eq_false (fun z => by have := a4 y hy; rw [← z] at this; simp at this; rw [j2] at this; cases this)]; rfl
  have l := ((opt_spec (r :: rs) 0 w R.start).2.2.2 _ v).1
  simp only [sm] at l
  rw [hz] at l
  have := opt_tail R
  omega
theorem erase_perm (c : List (List Int)) : ∀ (a : Nat), a < c.length → c.Perm (c.getD a [] :: c.eraseIdx a) := by
  induction c with
  | nil => intro a h; simp at h
  | cons r rs ih =>
    intro a h
    cases a with
    | zero => exact List.Perm.refl _
    | succ a => exact ((ih a (by simpa using h)).cons r).trans (List.Perm.swap _ _ _)
theorem set_perm (c : List (List Int)) (z : List Int) : ∀ (a : Nat), a < c.length → (c.set a z).Perm (z :: c.eraseIdx a) := by
  induction c with
  | nil => intro a h; simp at h
  | cons r rs ih =>
    intro a h
    cases a with
    | zero => exact List.Perm.refl _
    | succ a => exact ((ih a (by simpa using h)).cons r).trans (List.Perm.swap _ _ _)
theorem bestS_out {c : List (List Int)} {w : Nat} (R : RM c w) : (bestS c).2.1 = opt c 0 ∧ (bestS c).2.2 = 0 := by rw [bestS_rm R]; exact ⟨rfl, rfl⟩
theorem rows_free (c : List (List Int)) (a : Nat) (z : List Int) {i : Nat} (hi : i < c.length) : (c.set a z).take i ++ [if i = a then z else c.getD i []] = (c.set a z).take (i + 1) := by
  have h : i < (c.set a z).length := by rw [List.length_set]; exact hi
  rw [List.take_succ_eq_append_getElem h, List.getElem_set, List.getD_eq_getElem?_getD, List.getElem?_eq_getElem hi]
  by_cases q : i = a
  · rw [if_pos q, if_pos q.symm]
  · rw [if_neg q, if_neg (fun e => q e.symm)]; rfl
theorem rows_less (c : List (List Int)) (a : Nat) {i : Nat} (hi : i < c.length) : (c.take i).eraseIdx a ++ (if i = a then [] else [c.getD i []]) = (c.take (i + 1)).eraseIdx a := by
  have hl : (c.take i).length = i := by rw [List.length_take]; omega
  have e : c.take (i + 1) = c.take i ++ [c.getD i []] := by
    rw [List.take_succ_eq_append_getElem hi, List.getD_eq_getElem?_getD, List.getElem?_eq_getElem hi]; rfl
  rw [e]
  by_cases q : i = a
  · subst q
    rw [if_pos rfl, List.eraseIdx_append_of_length_le (by omega), hl, Nat.sub_self, List.eraseIdx_of_length_le (by omega)]; rfl
  · rw [if_neg q]
    by_cases q2 : i < a
    · rw [List.eraseIdx_append_of_length_le (by omega), List.eraseIdx_of_length_le (by omega), hl, List.eraseIdx_of_length_le (by simp; omega)]
    · rw [List.eraseIdx_append_of_lt_length (by omega)]
theorem rows_law (c : List (List Int)) (a b : Int) : ∃ k, skiarealaw08_AssignRows.f k c a b = some true := by
  refine Ev.rounds (g := fun k => skiarealaw08_AssignRows.f k c a b) ?_
  unfold skiarealaw08_AssignRows.f
  refine Ev.bind alive_ev ?_
  simp only [if_true]
  refine Ev.bind (ok_ev c) ?_
  have hT : Ev (fun k => skiarealaw08_AssignRows.j0 k c a b true) true := Ev.step (f := fun _ => some true) (fun k => by simp only [skiarealaw08_AssignRows.j0, if_true]) (Ev.now _)
  cases h : okB c with
  | false => simp only [Bool.false_eq_true, if_false]; exact hT
  | true =>
    simp only [if_true]
    by_cases q1 : a < 0
    · simp only [if_pos q1]; exact hT
    simp only [if_neg q1]
    by_cases q2 : a ≥ (c.length : Int)
    · simp only [if_pos q2]; exact hT
    simp only [if_neg q2]
    by_cases q3 : b < 0
    · simp only [if_pos q3]; exact hT
    simp only [if_neg q3]
    by_cases q4 : b ≥ (c.length : Int)
    · rw [decide_eq_true q4]; exact hT
    rw [decide_eq_false q4]
    have R := ok_rm h
    have hroom := R.room
    have h8 := R.w8
    obtain ⟨a, rfl⟩ : ∃ n : Nat, a = n := ⟨a.toNat, by omega⟩
    obtain ⟨b, rfl⟩ : ∃ n : Nat, b = n := ⟨b.toNat, by omega⟩
    have ha : a < c.length := by omega
    have hb : b < c.length := by omega
    have wa := R.at ha
    -- the two rows exchanged
    have eT : (c.set a (c.getD b [])).set b (c.getD a []) = (c.set a c[b]).set b c[a] := by
      rw [List.getD_eq_getElem?_getD, List.getElem?_eq_getElem hb, List.getD_eq_getElem?_getD, List.getElem?_eq_getElem ha]; rfl
    have pT : c.Perm ((c.set a (c.getD b [])).set b (c.getD a [])) := by rw [eT]; exact (List.set_set_perm ha hb).symm
    generalize hTu : (c.set a (c.getD b [])).set b (c.getD a []) = T at pT
    have RT := perm_rm pT R
    have nT := perm_opt pT R
    -- the row of zeros, and none
    generalize hz : List.replicate (c.getD a []).length (0 : Int) = z
    have z0 : ∀ i, z.getD i 0 = 0 := fun i => by
      rw [← hz, List.getD_eq_getElem?_getD, List.getElem?_replicate]; split <;> rfl
    have zl : z.length = cols c := by rw [← hz, List.length_replicate]; exact wa
    have pA := erase_perm c a ha
    have RA := perm_rm pA R
    have pF := set_perm c z a ha
    have RZ : RM (z :: c.eraseIdx a) (cols c) := ⟨fun r hr => by
        rcases List.mem_cons.1 hr with rfl | hr
        · exact zl
        · exact RA.wide r (by simp [hr]), fun r hr => by
        rcases List.mem_cons.1 hr with rfl | hr
        · intro x hx
          rw [← hz] at hx
          rw [(List.mem_replicate.1 hx).2]; omega
        · exact RA.cell r (by simp [hr]), R.w8, by have := RA.room; simpa using this⟩
    have RF := perm_rm pF.symm RZ
    have RL := rm_tail RA
    have eF : opt (c.set a z) 0 = opt (c.eraseIdx a) 0 := by rw [perm_opt pF RF, opt_zero RZ z0]
    have leA : opt (c.eraseIdx a) 0 ≤ opt c 0 := by rw [perm_opt pA R]; exact opt_tail RA
    have key : ∀ d i, i + d = c.length → Ev (fun k => skiarealaw08_AssignRows.l0 k c (a : Int) (opt c 0) 0 (opt T 0) 0 ((c.set a z).take i) ((c.take i).eraseIdx a) (i : Int)) true := by
      intro d
      induction d with
      | zero =>
        intro i hi
        rw [List.take_of_length_le (by rw [List.length_set]; omega), List.take_of_length_le (by omega)]
        have bF := best_ev (c.set a z)
        rw [bestS_rm RF] at bF
        have bL := best_ev (c.eraseIdx a)
        rw [bestS_rm RL] at bL
        refine Ev.step (f := fun k => (assign_Best.f k (c.set a z)).bind fun s => ((assign_Best.f k (c.eraseIdx a)).bind fun t => (if (0 : Int) = 0 then (if (0 : Int) = 0 then (if s.2.2 = 0 then (if t.2.2 = 0 then (if opt c 0 = opt T 0 then (if s.2.1 = t.2.1 then (some (decide (s.2.1 ≤ opt c 0))) else (none)) else (none)) else (none)) else (none)) else (none)) else (none)))) (fun k => by simp only [skiarealaw08_AssignRows.l0]; rw [if_neg (by omega)]) ?_
        refine Ev.bind bF (Ev.bind bL ?_)
        simp only [if_true, if_pos nT, if_pos eF]
        rw [decide_eq_true (by omega)]
        exact Ev.now _
      | succ d ih =>
        intro i hi
        have hic : i < c.length := by omega
        have hw := R.at hic
        have hn := ih (i + 1) (by omega)
        rw [← rows_free c a z hic, ← rows_less c a hic] at hn
        have l1 : ((c.set a z).take i).length ≤ 8 := by rw [List.length_take, List.length_set]; omega
        have l2 : ((c.take i).eraseIdx a).length ≤ 8 := by
          have := List.length_eraseIdx_le (c.take i) a
          rw [List.length_take] at this; omega
        by_cases q : i = a
        · subst q
          rw [if_pos rfl, if_pos rfl, List.append_nil] at hn
          refine Ev.step (f := fun k => skiarealaw08_AssignRows.l0 k c (i : Int) (opt c 0) 0 (opt T 0) 0 ((c.set i z).take i ++ [z]) ((c.take i).eraseIdx i) ((i + 1 : Nat) : Int)) (fun k => ?_) hn
          simp only [skiarealaw08_AssignRows.l0]
          rw [if_pos (by omega), if_pos trivial, if_pos (by omega), rdL_nat, if_pos (by omega), if_pos (by omega), if_pos (by omega), Int.toNat_natCast, hz, w64s i c.length hic (by omega)]
        · rw [if_neg q, if_neg q] at hn
          refine Ev.step (f := fun k => skiarealaw08_AssignRows.l0 k c (a : Int) (opt c 0) 0 (opt T 0) 0 ((c.set a z).take i ++ [c.getD i []]) ((c.take i).eraseIdx a ++ [c.getD i []]) ((i + 1 : Nat) : Int)) (fun k => ?_) hn
          simp only [skiarealaw08_AssignRows.l0]
          rw [if_pos (by omega), if_neg (by omega), if_pos (by omega), if_pos (by omega), if_pos (by omega), rdL_nat, w64s i c.length hic (by omega)]
    have b1 := best_ev c
    rw [bestS_rm R] at b1
    have b2 := best_ev T
    rw [bestS_rm RT] at b2
    refine Ev.step (f := fun k => (assign_Best.f k c).bind fun s => (assign_Best.f k T).bind fun t => skiarealaw08_AssignRows.l0 k c (a : Int) s.2.1 s.2.2 t.2.1 t.2.2 [] [] 0) (fun k => ?_) ?_
    · simp only [skiarealaw08_AssignRows.j0]
      rw [if_neg (by decide), if_pos (by simp only [List.length_nil]; omega)]
      simp only [List.nil_append, Option.bind_some]
      rw [if_pos (by omega), if_pos (by omega), if_pos (by omega), if_pos (by omega), if_pos (by omega), Int.toNat_natCast, Int.toNat_natCast, rdL_nat, rdL_nat, hTu]
    · refine Ev.bind b1 (Ev.bind b2 ?_)
      have := key c.length 0 (by omega)
      simpa using this
theorem skiarealaw08_AssignRowsC.calls (k : Nat) (A0 : Option Addr) (c0 : Nat) (l0 : List (List Int)) (a1 : Int) (a2 : Int) (r : Bool) (w : World) (hr0 : Kd.C (Kd.slice 3 (Kd.int .i64)) w A0 l0.length l0) (hc0 : l0.length ≤ c0) (h : skiarealaw08_AssignRows.f k l0 a1 a2 = some r) :
    Calls Try.prog 9 #[.slice A0 l0.length c0, .int .i64 a1, .int .i64 a2] w fun e w' => e = .returned (.bool r) ∧ Below w.heap.size w w' :=
  skiarealaw08_AssignRows.calls k (fun k_ => k_ < w.heap.size) A0 c0 l0 a1 a2 r w (Kd.V_mk hc0 (Kd.C_F (Kd.heap_slice 3 (Kd.heap_int .i64)) hr0)) h
end Go.Proofs.Ytjhgmhncannpaaa.PP
