/- The plain laws of chapter 13: what the printed functions compute, over whole numbers alone. No conditions beyond those that each theorem states. -/
import Derived.Test.YteldaggcdnlpdaaPPxD
namespace Go.Proofs.Yteldaggcdnlpdaa.PP
open Go.RowKit Go.Proofs.YteldaggcdnlpdaaW.PrintWords Go.Proofs.YteldaggcdnlpdaaW.PrintLast Go.Proofs.YteldaggcdnlpdaaW.PrintMore
set_option linter.unusedVariables false
set_option linter.unusedSimpArgs false
theorem w64 {x : Int} (h0 : -9223372036854775808 ≤ x) (h1 : x ≤ 9223372036854775807) : wrap64 x = x := by
  unfold wrap64; omega

theorem mx_eq (a b : Int) : mx a b = max a b := by unfold mx; omega
theorem mn_eq (a b : Int) : mn a b = min a b := by unfold mn; omega

/-- A pack is right. -/
def Rt (n m d : Int) : Prop := 0 ≤ n ∧ n ≤ 20000 ∧ 0 ≤ m ∧ m ≤ 20000 ∧ 50 ≤ d ∧ d ≤ 900
instance (n m d : Int) : Decidable (Rt n m d) := by unfold Rt; infer_instance

theorem right_eq (n m d : Int) : snowpack_Right.f n m d = some (decide (Rt n m d)) := by
  unfold snowpack_Right.f
  rw [mx_eq, mn_eq]
  by_cases h : Rt n m d
  · rw [decide_eq_true h]
    unfold Rt at h
    rw [if_pos (by omega), if_pos (by omega), if_pos (by omega), decide_eq_true (by omega)]
  · rw [decide_eq_false h]
    unfold Rt at h
    by_cases h1 : min n m ≥ 0
    · rw [if_pos h1]
      by_cases h2 : max n m ≤ 20000
      · rw [if_pos h2]
        by_cases h3 : d ≥ 50
        · rw [if_pos h3, decide_eq_false (by omega)]
        · rw [if_neg h3]
      · rw [if_neg h2]
    · rw [if_neg h1]

theorem in_eq (n lo hi : Int) : skiarearef13_in.f n lo hi = some (decide (lo ≤ n ∧ n ≤ hi)) := by
  unfold skiarearef13_in.f
  by_cases h : n ≥ lo
  · rw [if_pos h]; congr 1; simp [show lo ≤ n from h]
  · rw [if_neg h]; congr 1; simp [show ¬ lo ≤ n from h]

theorem ref_right_eq (n m d : Int) : skiarearef13_Right.f n m d = some (decide (Rt n m d)) := by
  unfold skiarearef13_Right.f
  simp only [in_eq, Option.bind_some, decide_eq_true_eq]
  by_cases h1 : 0 ≤ n ∧ n ≤ 20000
  · rw [if_pos h1]
    by_cases h2 : 0 ≤ m ∧ m ≤ 20000
    · rw [if_pos h2]
      exact congrArg some (decide_eq_decide.2 (by unfold Rt; omega))
    · rw [if_neg h2]; exact congrArg some (decide_eq_false (by unfold Rt; omega)).symm
  · rw [if_neg h1]; exact congrArg some (decide_eq_false (by unfold Rt; omega)).symm

def water (n m d : Int) : Int × Int := if Rt n m d then (n + m, 0) else (0, 1)
def depth (n m d : Int) : Int × Int := if Rt n m d then ((n + m) * 1000 / d, 0) else (0, 1)

theorem mul_bd {x y X Y : Int} (hx : 0 ≤ x) (hX : x ≤ X) (hy : 0 ≤ y) (hY : y ≤ Y) : 0 ≤ x * y ∧ x * y ≤ X * Y :=
  ⟨Int.mul_nonneg hx hy, Int.mul_le_mul hX hY hy (by omega)⟩

theorem tdiv_bd {x y : Int} (hx : 0 ≤ x) (hy : 0 < y) : Int.tdiv x y = x / y ∧ 0 ≤ x / y ∧ x / y ≤ x :=
  ⟨Int.tdiv_eq_ediv_of_nonneg hx, Int.ediv_nonneg hx (by omega), Int.ediv_le_self y hx⟩

theorem water_eq (n m d : Int) : snowpack_Water.f n m d = some (water n m d) := by
  unfold snowpack_Water.f water
  simp only [right_eq, Option.bind_some, decide_eq_true_eq]
  by_cases h : Rt n m d
  · rw [if_pos h, if_pos h]; unfold Rt at h; rw [w64 (by omega) (by omega)]
  · rw [if_neg h, if_neg h]

theorem ref_water_eq (n m d : Int) : skiarearef13_Water.f n m d = some (water n m d) := by
  unfold skiarearef13_Water.f water
  simp only [ref_right_eq, Option.bind_some, decide_eq_true_eq]
  by_cases h : Rt n m d
  · rw [if_pos h, if_pos h]; unfold Rt at h; rw [w64 (by omega) (by omega)]
  · rw [if_neg h, if_neg h]

theorem depth_core {n m d : Int} (h : Rt n m d) : wrap64 (Int.tdiv (wrap64 ((n + m) * 1000)) d) = (n + m) * 1000 / d := by
  unfold Rt at h
  rw [w64 (x := (n + m) * 1000) (by omega) (by omega)]
  obtain ⟨e, e0, e1⟩ := tdiv_bd (x := (n + m) * 1000) (y := d) (by omega) (by omega)
  rw [e, w64 (by omega) (by omega)]

theorem depth_eq (n m d : Int) : snowpack_Depth.f n m d = some (depth n m d) := by
  unfold snowpack_Depth.f depth
  simp only [water_eq, Option.bind_some]
  unfold water
  by_cases h : Rt n m d
  · simp only [if_pos h, if_true]
    rw [if_neg (by unfold Rt at h; omega), depth_core h]
  · simp only [if_neg h]; rfl

theorem ref_depth_eq (n m d : Int) : skiarearef13_Depth.f n m d = some (depth n m d) := by
  unfold skiarearef13_Depth.f depth
  simp only [ref_right_eq, Option.bind_some, decide_eq_true_eq]
  by_cases h : Rt n m d
  · rw [if_pos h, if_pos h, if_neg (by unfold Rt at h; omega)]
    rw [w64 (x := n + m) (by unfold Rt at h; omega) (by unfold Rt at h; omega), depth_core h]
  · rw [if_neg h, if_neg h]

/-- The common density of w millimetres of water of the density a and mm of the density b. -/
def cm (w a mm b : Int) : Int := if mm = 0 then a else (w + mm) * a * b / (w * b + mm * a)

theorem cm_wraps {w a mm b : Int} (hw : 0 ≤ w) (hW : w ≤ 40000) (hm : 0 < mm) (hM : mm ≤ 40000) (ha : 50 ≤ a) (hA : a ≤ 900) (hb : 50 ≤ b) (hB : b ≤ 900) :
    wrap64 (wrap64 (w * b) + wrap64 (mm * a)) = w * b + mm * a ∧ 0 < w * b + mm * a ∧
    wrap64 (Int.tdiv (wrap64 (wrap64 (wrap64 (w + mm) * a) * b)) (w * b + mm * a)) = (w + mm) * a * b / (w * b + mm * a) := by
  obtain ⟨p0, p1⟩ := mul_bd (x := w) (y := b) hw hW (by omega) hB
  obtain ⟨q0, q1⟩ := mul_bd (x := mm) (y := a) (by omega) hM (by omega) hA
  have q2 : 0 < mm * a := Int.mul_pos hm (by omega)
  obtain ⟨r0, r1⟩ := mul_bd (x := w + mm) (y := a) (X := 80000) (by omega) (by omega) (by omega) hA
  obtain ⟨s0, s1⟩ := mul_bd (x := (w + mm) * a) (y := b) r0 r1 (by omega) hB
  have e1 : wrap64 (w * b) = w * b := w64 (by omega) (by omega)
  have e2 : wrap64 (mm * a) = mm * a := w64 (by omega) (by omega)
  have e3 : wrap64 (w + mm) = w + mm := w64 (by omega) (by omega)
  have e4 : wrap64 ((w + mm) * a) = (w + mm) * a := w64 (by omega) (by omega)
  have e5 : wrap64 ((w + mm) * a * b) = (w + mm) * a * b := w64 (by omega) (by omega)
  obtain ⟨t, t0, t1⟩ := tdiv_bd (x := (w + mm) * a * b) (y := w * b + mm * a) s0 (by omega)
  refine ⟨?_, by omega, ?_⟩
  · rw [e1, e2, w64 (by omega) (by omega)]
  · rw [e3, e4, e5, t, w64 (by omega) (by omega)]

theorem common_eq {n m a mm b : Int} (h : Rt n m a) (hm : 0 ≤ mm) (hM : mm ≤ 40000) (hb : 50 ≤ b) (hB : b ≤ 900) :
    snowpack_common.f n m a mm b = some (cm (n + m) a mm b) := by
  unfold Rt at h
  unfold snowpack_common.f cm
  by_cases e : mm = 0
  · rw [if_pos e, if_pos e]
  · rw [if_neg e, if_neg e]
    obtain ⟨c1, c2, c3⟩ := cm_wraps (w := n + m) (a := a) (mm := mm) (b := b) (by omega) (by omega) (by omega) hM (by omega) (by omega) hb hB
    rw [w64 (x := n + m) (by omega) (by omega), c1, if_neg (by omega), c3]

theorem ref_common_eq {w a mm b : Int} (hw : 0 ≤ w) (hW : w ≤ 40000) (ha : 50 ≤ a) (hA : a ≤ 900) (hm : 0 ≤ mm) (hM : mm ≤ 40000) (hb : 50 ≤ b) (hB : b ≤ 900) :
    skiarearef13_Common.f w a mm b = some (cm w a mm b) := by
  unfold skiarearef13_Common.f cm
  by_cases e : mm = 0
  · rw [if_pos e, if_pos e]
  · rw [if_neg e, if_neg e]
    obtain ⟨c1, c2, c3⟩ := cm_wraps (w := w) (a := a) (mm := mm) (b := b) hw hW (by omega) hM ha hA hb hB
    rw [c1, if_neg (by omega), c3]

theorem cm_bd {w a mm b : Int} (hw : 0 ≤ w) (hm : 0 ≤ mm) (ha : 50 ≤ a) (hb : 50 ≤ b) : min a b ≤ cm w a mm b ∧ cm w a mm b ≤ max a b := by
  unfold cm
  by_cases e : mm = 0
  · rw [if_pos e]; omega
  · rw [if_neg e]
    have q2 : 0 < mm * a := Int.mul_pos (by omega) (by omega)
    have q3 : 0 ≤ w * b := Int.mul_nonneg hw (by omega)
    have key1 : (w + mm) * a * b - a * (w * b + mm * a) = mm * a * (b - a) := by grind
    have key2 : b * (w * b + mm * a) - (w + mm) * a * b = w * b * (b - a) := by grind
    have key3 : (w + mm) * a * b - b * (w * b + mm * a) = w * b * (a - b) := by grind
    have key4 : a * (w * b + mm * a) - (w + mm) * a * b = mm * a * (a - b) := by grind
    rcases Int.le_total a b with h | h
    · have z1 : 0 ≤ mm * a * (b - a) := Int.mul_nonneg (by omega) (by omega)
      have z2 : 0 ≤ w * b * (b - a) := Int.mul_nonneg (by omega) (by omega)
      have l1 := Int.le_ediv_of_mul_le (a := a) (b := (w + mm) * a * b) (c := w * b + mm * a) (by omega) (by omega)
      have l2 := Int.ediv_le_of_le_mul (a := (w + mm) * a * b) (b := b) (c := w * b + mm * a) (by omega) (by omega)
      omega
    · have z1 : 0 ≤ mm * a * (a - b) := Int.mul_nonneg (by omega) (by omega)
      have z2 : 0 ≤ w * b * (a - b) := Int.mul_nonneg (by omega) (by omega)
      have l1 := Int.le_ediv_of_mul_le (a := b) (b := (w + mm) * a * b) (c := w * b + mm * a) (by omega) (by omega)
      have l2 := Int.ediv_le_of_le_mul (a := (w + mm) * a * b) (b := a) (c := w * b + mm * a) (by omega) (by omega)
      omega

def fall (n m d mm de : Int) : Int × Int × Int × Int :=
  if Rt n m d then
    if 0 ≤ mm ∧ mm ≤ 1000 ∧ 50 ≤ de ∧ de ≤ 900 then
      if n + mm > 20000 then (0, 0, 0, 12) else (n + mm, m, cm (n + m) d mm de, 0)
    else (0, 0, 0, 2)
  else (0, 0, 0, 1)

theorem add_eq {n m d na ma de : Int} (h : Rt n m d) (h0 : 0 ≤ na) (h1 : 0 ≤ ma) (h2 : na + ma ≤ 40000) (hb : 50 ≤ de) (hB : de ≤ 900) :
    snowpack_add.f n m d na ma de = some (if max (n + na) (m + ma) > 20000 then (0, 0, 0, 12) else (n + na, m + ma, cm (n + m) d (na + ma) de, 0)) := by
  unfold snowpack_add.f
  have h' := h
  unfold Rt at h'
  rw [w64 (x := na + ma) (by omega) (by omega), w64 (x := n + na) (by omega) (by omega), w64 (x := m + ma) (by omega) (by omega), common_eq h (by omega) h2 hb hB, mx_eq]
  simp only [Option.bind_some]
  split <;> rfl

theorem fall_eq (n m d mm de : Int) : snowpack_Fall.f n m d mm de = some (fall n m d mm de) := by
  unfold snowpack_Fall.f fall
  simp only [right_eq, Option.bind_some, decide_eq_true_eq]
  by_cases h : Rt n m d
  · rw [if_pos h, if_pos h]
    by_cases h1 : mm < 0
    · rw [if_pos h1, if_neg (by omega)]
    rw [if_neg h1]
    by_cases h2 : mm > 1000
    · rw [if_pos h2, if_neg (by omega)]
    rw [if_neg h2]
    by_cases h3 : de < 50
    · rw [if_pos h3, if_neg (by omega)]
    rw [if_neg h3]
    by_cases h4 : de > 900
    · rw [if_pos h4, if_neg (by omega)]
    rw [if_neg h4, if_pos (by omega), add_eq h (by omega) (by omega) (by omega) (by omega) (by omega)]
    simp only [Option.bind_some]
    unfold Rt at h
    by_cases h5 : n + mm > 20000
    · rw [if_pos (by omega), if_pos h5]
    · rw [if_neg (by omega), if_neg h5]; simp
  · rw [if_neg h, if_neg h]

theorem ref_fall_eq (k : Nat) (n m d mm de : Int) : skiarearef13_Fall.f (k + 1) n m d mm de = some (fall n m d mm de) := by
  unfold skiarearef13_Fall.f fall
  simp only [ref_right_eq, in_eq, Option.bind_some, decide_eq_true_eq, skiarearef13_Fall.j0]
  by_cases h : Rt n m d
  · rw [if_pos h, if_pos h]
    have h' := h
    unfold Rt at h'
    by_cases h1 : 0 ≤ mm ∧ mm ≤ 1000
    · rw [if_pos h1]
      by_cases h2 : 50 ≤ de ∧ de ≤ 900
      · have e : (!decide (50 ≤ de ∧ de ≤ 900)) = false := by simp [h2]
        rw [e, if_neg (by decide), if_pos (c := 0 ≤ mm ∧ mm ≤ 1000 ∧ 50 ≤ de ∧ de ≤ 900) (by omega), w64 (x := n + mm) (by omega) (by omega)]
        by_cases h5 : n + mm > 20000
        · rw [if_pos h5, if_pos h5]
        · rw [if_neg h5, if_neg h5, w64 (x := n + m) (by omega) (by omega), ref_common_eq (by omega) (by omega) (by omega) (by omega) (by omega) (by omega) (by omega) (by omega)]
          rfl
      · have e : (!decide (50 ≤ de ∧ de ≤ 900)) = true := by simp only [decide_eq_false h2, Bool.not_false]
        rw [e, if_pos rfl, if_neg (by omega)]
    · rw [if_neg h1, if_pos trivial, if_neg (by omega)]
  · rw [if_neg h, if_neg h]

def make (n m d mm : Int) : Int × Int × Int × Int :=
  if Rt n m d then
    if 0 ≤ mm ∧ mm ≤ 1000 then
      if m + mm > 20000 then (0, 0, 0, 12) else (n, m + mm, cm (n + m) d mm 450, 0)
    else (0, 0, 0, 2)
  else (0, 0, 0, 1)

theorem make_eq (n m d mm : Int) : snowpack_Make.f n m d mm = some (make n m d mm) := by
  unfold snowpack_Make.f make
  simp only [right_eq, Option.bind_some, decide_eq_true_eq]
  by_cases h : Rt n m d
  · rw [if_pos h, if_pos h]
    by_cases h1 : mm < 0
    · rw [if_pos h1, if_neg (by omega)]
    rw [if_neg h1]
    by_cases h2 : mm > 1000
    · rw [if_pos h2, if_neg (by omega)]
    rw [if_neg h2, if_pos (by omega), add_eq h (by omega) (by omega) (by omega) (by omega) (by omega)]
    simp only [Option.bind_some]
    unfold Rt at h
    by_cases h5 : m + mm > 20000
    · rw [if_pos (by omega), if_pos h5]
    · rw [if_neg (by omega), if_neg h5]; simp
  · rw [if_neg h, if_neg h]

theorem ref_make_eq (n m d mm : Int) : skiarearef13_Make.f n m d mm = some (make n m d mm) := by
  unfold skiarearef13_Make.f make
  simp only [ref_right_eq, in_eq, Option.bind_some, decide_eq_true_eq]
  by_cases h : Rt n m d
  · rw [if_pos h, if_pos h]
    have h' := h
    unfold Rt at h'
    by_cases h1 : 0 ≤ mm ∧ mm ≤ 1000
    · rw [if_pos h1, if_pos h1, w64 (x := m + mm) (by omega) (by omega)]
      by_cases h5 : m + mm > 20000
      · rw [if_pos h5, if_pos h5]
      · rw [if_neg h5, if_neg h5, w64 (x := n + m) (by omega) (by omega), ref_common_eq (by omega) (by omega) (by omega) (by omega) (by omega) (by omega) (by omega) (by omega)]
        rfl
    · rw [if_neg h1, if_neg h1]
  · rw [if_neg h, if_neg h]

/-- One hour of settling, and many. -/
def hour (d : Int) : Int := if d < 500 then d + (500 - d + 49) / 50 else d
def hours : Nat → Int → Int
  | 0, d => d
  | j + 1, d => hours j (hour d)

theorem hour_bd {d : Int} (h : 50 ≤ d) (h1 : d ≤ 900) : d ≤ hour d ∧ hour d ≤ max d 500 := by unfold hour; omega
theorem hours_bd (j : Nat) : ∀ {d : Int}, 50 ≤ d → d ≤ 900 → d ≤ hours j d ∧ hours j d ≤ max d 500 := by
  induction j with
  | zero => intro d _ _; simp only [hours]; omega
  | succ j ih =>
    intro d h h1
    obtain ⟨a, b⟩ := hour_bd h h1
    obtain ⟨p, q⟩ := ih (d := hour d) (by omega) (by omega)
    simp only [hours]; omega
theorem hours_still (j : Nat) : ∀ {d : Int}, 500 ≤ d → hours j d = d := by
  induction j with
  | zero => intro d _; rfl
  | succ j ih => intro d h; have e : hour d = d := by unfold hour; omega
                 simp only [hours]; rw [e]; exact ih h
theorem hours_add (i : Nat) : ∀ (j : Nat) (d : Int), hours (i + j) d = hours j (hours i d) := by
  induction i with
  | zero => intro j d; simp [hours]
  | succ i ih => intro j d; rw [show i + 1 + j = (i + j) + 1 by omega]; simp only [hours]; exact ih j _

theorem settle_step {d : Int} (h : 50 ≤ d) (h1 : d < 500) : wrap64 (d + wrap64 (Int.tdiv (wrap64 (wrap64 (500 - d) + 49)) 50)) = hour d := by
  rw [w64 (x := 500 - d) (by omega) (by omega), w64 (x := 500 - d + 49) (by omega) (by omega), Int.tdiv_eq_ediv_of_nonneg (by omega)]
  rw [w64 (x := (500 - d + 49) / 50) (by omega) (by omega), w64 (by omega) (by omega)]
  unfold hour; rw [if_pos h1]

theorem settle_loop (j : Nat) : ∀ (k : Nat) (i t n m d : Int), 0 ≤ i → i ≤ t → t ≤ 1000 → t - i = j → j < k → 50 ≤ d → d ≤ 900 →
    snowpack_Settle.l0 k t i n m d = some (n, m, hours j d, 0) := by
  induction j with
  | zero =>
    intro k i t n m d _ _ _ hd hk _ _
    obtain ⟨k, rfl⟩ : ∃ z, k = z + 1 := ⟨k - 1, by omega⟩
    simp only [snowpack_Settle.l0]; rw [if_neg (by omega)]; rfl
  | succ j ih =>
    intro k i t n m d h0 h1 h2 hd hk h3 h4
    obtain ⟨k, rfl⟩ : ∃ z, k = z + 1 := ⟨k - 1, by omega⟩
    simp only [snowpack_Settle.l0]; rw [if_pos (by omega)]
    by_cases h : d ≥ 500
    · rw [if_pos h, hours_still _ h]
    · obtain ⟨a, b⟩ := hour_bd h3 h4
      rw [if_neg h, settle_step h3 (by omega), w64 (x := i + 1) (by omega) (by omega), ih k (i + 1) t n m (hour d) (by omega) (by omega) h2 (by omega) (by omega) (by omega) (by omega)]
      rfl

theorem ref_settle_loop (j : Nat) : ∀ (k : Nat) (i t n m d d0 : Int), 0 ≤ i → i ≤ t → t ≤ 1000 → t - i = j → j < k → 50 ≤ d → d ≤ 900 →
    skiarearef13_Settle.l0 k t d i n m d0 = some (n, m, hours j d, 0) := by
  induction j with
  | zero =>
    intro k i t n m d d0 _ _ _ hd hk _ _
    obtain ⟨k, rfl⟩ : ∃ z, k = z + 1 := ⟨k - 1, by omega⟩
    simp only [skiarearef13_Settle.l0]; rw [if_neg (by omega)]; rfl
  | succ j ih =>
    intro k i t n m d d0 h0 h1 h2 hd hk h3 h4
    obtain ⟨k, rfl⟩ : ∃ z, k = z + 1 := ⟨k - 1, by omega⟩
    obtain ⟨a, b⟩ := hour_bd h3 h4
    simp only [skiarearef13_Settle.l0]; rw [if_pos (by omega), w64 (x := i + 1) (by omega) (by omega)]
    by_cases h : d < 500
    · rw [if_pos h, settle_step h3 h, ih k (i + 1) t n m (hour d) d0 (by omega) (by omega) h2 (by omega) (by omega) (by omega) (by omega)]
      rfl
    · have e : hour d = d := by unfold hour; omega
      rw [if_neg h, ih k (i + 1) t n m d d0 (by omega) (by omega) h2 (by omega) (by omega) h3 h4]
      simp only [hours]; rw [e]

def settle (n m d t : Int) : Int × Int × Int × Int :=
  if Rt n m d then if 0 ≤ t ∧ t ≤ 1000 then (n, m, hours t.toNat d, 0) else (0, 0, 0, 2) else (0, 0, 0, 1)

theorem settle_eq {k : Nat} (hk : 1000 < k) (n m d t : Int) : snowpack_Settle.f k n m d t = some (settle n m d t) := by
  unfold snowpack_Settle.f settle
  simp only [right_eq, Option.bind_some, decide_eq_true_eq]
  by_cases h : Rt n m d
  · rw [if_pos h, if_pos h]
    unfold Rt at h
    by_cases h1 : t < 0
    · rw [if_pos h1, if_neg (by omega)]
    rw [if_neg h1]
    by_cases h2 : t > 1000
    · rw [if_pos h2, if_neg (by omega)]
    rw [if_neg h2, if_pos (by omega), settle_loop t.toNat k 0 t n m d (by omega) (by omega) (by omega) (by omega) (by omega) (by omega) (by omega)]
  · rw [if_neg h, if_neg h]

theorem ref_settle_eq {k : Nat} (hk : 1000 < k) (n m d t : Int) : skiarearef13_Settle.f k n m d t = some (settle n m d t) := by
  unfold skiarearef13_Settle.f settle
  simp only [ref_right_eq, in_eq, Option.bind_some, decide_eq_true_eq]
  by_cases h : Rt n m d
  · rw [if_pos h, if_pos h]
    unfold Rt at h
    by_cases h1 : 0 ≤ t ∧ t ≤ 1000
    · rw [if_pos h1, if_pos h1, ref_settle_loop t.toNat k 0 t n m d d (by omega) (by omega) (by omega) (by omega) (by omega) (by omega) (by omega)]
    · rw [if_neg h1, if_neg h1]
  · rw [if_neg h, if_neg h]

def melt (n m d mm : Int) : Int × Int × Int × Int × Int :=
  if Rt n m d then if 0 ≤ mm ∧ mm ≤ 1000 then (n - min mm n, m - min (mm - min mm n) m, d, min mm n + min (mm - min mm n) m, 0) else (0, 0, 0, 0, 2) else (0, 0, 0, 0, 1)

theorem melt_core {n m mm : Int} (h0 : 0 ≤ n) (h1 : n ≤ 20000) (h2 : 0 ≤ m) (h3 : m ≤ 20000) (h4 : 0 ≤ mm) (h5 : mm ≤ 1000) :
    wrap64 (n - mn mm n) = n - min mm n ∧ wrap64 (m - mn (wrap64 (mm - mn mm n)) m) = m - min (mm - min mm n) m ∧ wrap64 (mn mm n + mn (wrap64 (mm - mn mm n)) m) = min mm n + min (mm - min mm n) m := by
  simp only [mn_eq]
  rw [w64 (x := mm - min mm n) (by omega) (by omega)]
  exact ⟨w64 (by omega) (by omega), w64 (by omega) (by omega), w64 (by omega) (by omega)⟩

theorem melt_eq (n m d mm : Int) : snowpack_Melt.f n m d mm = some (melt n m d mm) := by
  unfold snowpack_Melt.f melt
  simp only [right_eq, Option.bind_some, decide_eq_true_eq]
  by_cases h : Rt n m d
  · rw [if_pos h, if_pos h]
    unfold Rt at h
    by_cases h1 : mm < 0
    · rw [if_pos h1, if_neg (by omega)]
    rw [if_neg h1]
    by_cases h2 : mm > 1000
    · rw [if_pos h2, if_neg (by omega)]
    obtain ⟨a, b, c⟩ := melt_core (n := n) (m := m) (mm := mm) (by omega) (by omega) (by omega) (by omega) (by omega) (by omega)
    rw [if_neg h2, if_pos (by omega), a, b, c]
  · rw [if_neg h, if_neg h]

theorem ref_melt_eq (n m d mm : Int) : skiarearef13_Melt.f n m d mm = some (melt n m d mm) := by
  unfold skiarearef13_Melt.f melt
  simp only [ref_right_eq, in_eq, Option.bind_some, decide_eq_true_eq]
  by_cases h : Rt n m d
  · rw [if_pos h, if_pos h]
    unfold Rt at h
    by_cases h1 : 0 ≤ mm ∧ mm ≤ 1000
    · obtain ⟨a, b, c⟩ := melt_core (n := n) (m := m) (mm := mm) (by omega) (by omega) (by omega) (by omega) (by omega) (by omega)
      rw [if_pos h1, if_pos h1, a, b, c]
    · rw [if_neg h1, if_neg h1]
  · rw [if_neg h, if_neg h]

def move (n m d a b c mm : Int) : Int × Int × Int × Int × Int × Int × Int :=
  if Rt n m d ∧ Rt a b c then
    if 0 ≤ mm ∧ mm ≤ n + m then
      if max (a + (mm - min mm m)) (b + min mm m) > 20000 then (0, 0, 0, 0, 0, 0, 12)
      else (n - (mm - min mm m), m - min mm m, d, a + (mm - min mm m), b + min mm m, cm (a + b) c mm d, 0)
    else (0, 0, 0, 0, 0, 0, 2)
  else (0, 0, 0, 0, 0, 0, 1)

theorem move_eq {k : Nat} (hk : 1 < k) (n m d a b c mm : Int) : snowpack_Move.f k n m d a b c mm = some (move n m d a b c mm) := by
  obtain ⟨k, rfl⟩ : ∃ z, k = z + 2 := ⟨k - 2, by omega⟩
  unfold snowpack_Move.f move
  simp only [right_eq, Option.bind_some, decide_eq_true_eq, snowpack_Move.j0, snowpack_Move.j1]
  by_cases h : Rt n m d
  · rw [if_pos h]
    by_cases h' : Rt a b c
    · rw [if_pos (c := Rt n m d ∧ Rt a b c) ⟨h, h'⟩]
      have e : (!decide (Rt a b c)) = false := by simp [h']
      have g := h
      have g' := h'
      unfold Rt at g g'
      rw [e, if_neg (by decide)]
      by_cases h1 : mm < 0
      · rw [if_pos h1, if_pos trivial, if_neg (by omega)]
      rw [if_neg h1, w64 (x := n + m) (by omega) (by omega)]
      by_cases h2 : mm > n + m
      · rw [if_pos h2, if_neg (by omega)]
      rw [if_neg h2, if_pos (c := 0 ≤ mm ∧ mm ≤ n + m) (by omega)]
      simp only [mn_eq]
      rw [w64 (x := mm - min mm m) (by omega) (by omega), add_eq h' (by omega) (by omega) (by omega) (by omega) (by omega), show mm - min mm m + min mm m = mm by omega]
      simp only [Option.bind_some]
      by_cases h5 : max (a + (mm - min mm m)) (b + min mm m) > 20000
      · simp only [if_pos h5]; rfl
      · simp only [if_neg h5, if_true]
        rw [w64 (x := n - (mm - min mm m)) (by omega) (by omega), w64 (x := m - min mm m) (by omega) (by omega)]
    · have e : (!decide (Rt a b c)) = true := by simp [h']
      rw [e, if_pos rfl, if_neg (c := Rt n m d ∧ Rt a b c) (fun z => h' z.2)]
  · rw [if_neg h, if_pos trivial, if_neg (c := Rt n m d ∧ Rt a b c) (fun z => h z.1)]

theorem ref_move_eq {k : Nat} (hk : 1 < k) (n m d a b c mm : Int) : skiarearef13_Move.f k n m d a b c mm = some (move n m d a b c mm) := by
  obtain ⟨k, rfl⟩ : ∃ z, k = z + 2 := ⟨k - 2, by omega⟩
  unfold skiarearef13_Move.f move
  simp only [ref_right_eq, in_eq, Option.bind_some, decide_eq_true_eq, skiarearef13_Move.j0]
  by_cases h : Rt n m d
  · rw [if_pos h]
    by_cases h' : Rt a b c
    · rw [if_pos (c := Rt n m d ∧ Rt a b c) ⟨h, h'⟩]
      have e : (!decide (Rt a b c)) = false := by simp [h']
      have g := h
      have g' := h'
      unfold Rt at g g'
      rw [e, if_neg (by decide), w64 (x := n + m) (by omega) (by omega)]
      by_cases h2 : 0 ≤ mm ∧ mm ≤ n + m
      · rw [if_pos h2, if_pos h2]
        simp only [mn_eq]
        rw [w64 (x := mm - min mm m) (by omega) (by omega), w64 (x := a + (mm - min mm m)) (by omega) (by omega), w64 (x := b + min mm m) (by omega) (by omega)]
        by_cases h5 : a + (mm - min mm m) > 20000
        · rw [if_pos h5, if_pos (by omega)]
        rw [if_neg h5]
        by_cases h6 : b + min mm m > 20000
        · rw [if_pos h6, if_pos (by omega)]
        rw [if_neg h6, if_neg (by omega), w64 (x := a + b) (by omega) (by omega), ref_common_eq (by omega) (by omega) (by omega) (by omega) (by omega) (by omega) (by omega) (by omega)]
        simp only [Option.bind_some]
        rw [w64 (x := n - (mm - min mm m)) (by omega) (by omega), w64 (x := m - min mm m) (by omega) (by omega)]
      · rw [if_neg h2, if_neg h2]
    · have e : (!decide (Rt a b c)) = true := by simp [h']
      rw [e, if_pos rfl, if_neg (c := Rt n m d ∧ Rt a b c) (fun z => h' z.2)]
  · rw [if_neg h, if_pos trivial, if_neg (c := Rt n m d ∧ Rt a b c) (fun z => h z.1)]

theorem alive_eq {k : Nat} (hk : 1000 < k) : skiarealaw13_alive.f k = some true := by
  unfold skiarealaw13_alive.f
  simp only [depth_eq, fall_eq, settle_eq hk, melt_eq, move_eq (show 1 < k by omega), Option.bind_some]
  decide
theorem beq4 (a b c : Int) : (a == a && (b == b && (c == c))) = true := by simp

theorem measures (n m d : Int) : ∃ k, skiarealaw13_SnowpackMeasures.f k n m d = some true := by
  refine ⟨1001, ?_⟩
  unfold skiarealaw13_SnowpackMeasures.f
  simp [alive_eq, right_eq, ref_right_eq, water_eq, ref_water_eq, depth_eq, ref_depth_eq]

theorem falls (n m d mm de : Int) : ∃ k, skiarealaw13_SnowpackFalls.f k n m d mm de = some true := by
  refine ⟨1001, ?_⟩
  unfold skiarealaw13_SnowpackFalls.f
  simp [alive_eq, fall_eq, ref_fall_eq]

theorem makes (n m d mm : Int) : ∃ k, skiarealaw13_SnowpackMakes.f k n m d mm = some true := by
  refine ⟨1001, ?_⟩
  unfold skiarealaw13_SnowpackMakes.f
  simp [alive_eq, make_eq, ref_make_eq]

theorem settles (n m d t : Int) : ∃ k, skiarealaw13_SnowpackSettles.f k n m d t = some true := by
  refine ⟨1001, ?_⟩
  unfold skiarealaw13_SnowpackSettles.f
  simp [alive_eq, settle_eq, ref_settle_eq]

theorem melts (n m d mm : Int) : ∃ k, skiarealaw13_SnowpackMelts.f k n m d mm = some true := by
  refine ⟨1001, ?_⟩
  unfold skiarealaw13_SnowpackMelts.f
  simp [alive_eq, melt_eq, ref_melt_eq]

theorem moves (n m d a b c mm : Int) : ∃ k, skiarealaw13_SnowpackMoves.f k n m d a b c mm = some true := by
  refine ⟨1001, ?_⟩
  unfold skiarealaw13_SnowpackMoves.f
  simp [alive_eq, move_eq, ref_move_eq]

/-! ### what each operation does, told of its result -/
theorem fall_ok {n m d mm de : Int} (h : (fall n m d mm de).2.2.2 = 0) :
    Rt n m d ∧ 0 ≤ mm ∧ mm ≤ 1000 ∧ 50 ≤ de ∧ de ≤ 900 ∧ n + mm ≤ 20000 ∧ fall n m d mm de = (n + mm, m, cm (n + m) d mm de, 0) := by
  unfold fall at h ⊢
  by_cases h1 : Rt n m d
  · rw [if_pos h1] at h ⊢
    by_cases h2 : 0 ≤ mm ∧ mm ≤ 1000 ∧ 50 ≤ de ∧ de ≤ 900
    · rw [if_pos h2] at h ⊢
      by_cases h3 : n + mm > 20000
      · rw [if_pos h3] at h; simp at h
      · rw [if_neg h3]; exact ⟨h1, by omega, by omega, by omega, by omega, by omega, rfl⟩
    · rw [if_neg h2] at h; simp at h
  · rw [if_neg h1] at h; simp at h

theorem make_ok {n m d mm : Int} (h : (make n m d mm).2.2.2 = 0) :
    Rt n m d ∧ 0 ≤ mm ∧ mm ≤ 1000 ∧ m + mm ≤ 20000 ∧ make n m d mm = (n, m + mm, cm (n + m) d mm 450, 0) := by
  unfold make at h ⊢
  by_cases h1 : Rt n m d
  · rw [if_pos h1] at h ⊢
    by_cases h2 : 0 ≤ mm ∧ mm ≤ 1000
    · rw [if_pos h2] at h ⊢
      by_cases h3 : m + mm > 20000
      · rw [if_pos h3] at h; simp at h
      · rw [if_neg h3]; exact ⟨h1, by omega, by omega, by omega, rfl⟩
    · rw [if_neg h2] at h; simp at h
  · rw [if_neg h1] at h; simp at h

theorem settle_ok {n m d t : Int} (h : (settle n m d t).2.2.2 = 0) :
    Rt n m d ∧ 0 ≤ t ∧ t ≤ 1000 ∧ settle n m d t = (n, m, hours t.toNat d, 0) := by
  unfold settle at h ⊢
  by_cases h1 : Rt n m d
  · rw [if_pos h1] at h ⊢
    by_cases h2 : 0 ≤ t ∧ t ≤ 1000
    · rw [if_pos h2]; exact ⟨h1, by omega, by omega, rfl⟩
    · rw [if_neg h2] at h; simp at h
  · rw [if_neg h1] at h; simp at h

theorem melt_ok {n m d mm : Int} (h : (melt n m d mm).2.2.2.2 = 0) :
    Rt n m d ∧ 0 ≤ mm ∧ mm ≤ 1000 ∧ melt n m d mm = (n - min mm n, m - min (mm - min mm n) m, d, min mm n + min (mm - min mm n) m, 0) := by
  unfold melt at h ⊢
  by_cases h1 : Rt n m d
  · rw [if_pos h1] at h ⊢
    by_cases h2 : 0 ≤ mm ∧ mm ≤ 1000
    · rw [if_pos h2]; exact ⟨h1, by omega, by omega, rfl⟩
    · rw [if_neg h2] at h; simp at h
  · rw [if_neg h1] at h; simp at h

theorem move_ok {n m d a b c mm : Int} (h : (move n m d a b c mm).2.2.2.2.2.2 = 0) :
    Rt n m d ∧ Rt a b c ∧ 0 ≤ mm ∧ mm ≤ n + m ∧ max (a + (mm - min mm m)) (b + min mm m) ≤ 20000 ∧
    move n m d a b c mm = (n - (mm - min mm m), m - min mm m, d, a + (mm - min mm m), b + min mm m, cm (a + b) c mm d, 0) := by
  unfold move at h ⊢
  by_cases h1 : Rt n m d ∧ Rt a b c
  · rw [if_pos h1] at h ⊢
    by_cases h2 : 0 ≤ mm ∧ mm ≤ n + m
    · rw [if_pos h2] at h ⊢
      by_cases h3 : max (a + (mm - min mm m)) (b + min mm m) > 20000
      · rw [if_pos h3] at h; simp at h
      · rw [if_neg h3]; exact ⟨h1.1, h1.2, by omega, by omega, by omega, rfl⟩
    · rw [if_neg h2] at h; simp at h
  · rw [if_neg h1] at h; simp at h

theorem density (n m d a b c mm t : Int) : ∃ k, skiarealaw13_SnowpackDensity.f k n m d a b c mm t = some true := by
  refine ⟨1002, ?_⟩
  have hl : skiarealaw13_SnowpackDensity.j0 1002 mm t false n m d a b c = some true := by
    show skiarealaw13_SnowpackDensity.j0 (1001 + 1) mm t false n m d a b c = some true
    simp only [skiarealaw13_SnowpackDensity.j0]
    rw [if_neg (by decide), move_eq (by omega)]
    simp only [Option.bind_some]
    have hs : ∀ x : Unit, ((snowpack_Settle.f 1001 n m d t).bind fun bt286 => (if bt286.2.2.2 = 0 then (if bt286.2.2.1 ≥ d then (some (decide (bt286.2.2.1 ≤ (mx d 500)))) else (none)) else (some true))) = some true := by
      intro _
      rw [settle_eq (by omega)]
      simp only [Option.bind_some]
      by_cases h : (settle n m d t).2.2.2 = 0
      · obtain ⟨h1, h2, h3, e⟩ := settle_ok h
        rw [e]
        unfold Rt at h1
        obtain ⟨p, q⟩ := hours_bd t.toNat (d := d) (by omega) (by omega)
        simp only [if_true]
        rw [if_pos (by omega), mx_eq, decide_eq_true q]
      · rw [if_neg h]
    by_cases h : (move n m d a b c mm).2.2.2.2.2.2 = 0
    · rw [if_pos h]
      obtain ⟨h1, h2, h3, h4, h5, e⟩ := move_ok h
      rw [e]
      unfold Rt at h1 h2
      obtain ⟨p, q⟩ := cm_bd (w := a + b) (a := c) (mm := mm) (b := d) (by omega) (by omega) (by omega) (by omega)
      simp only [mx_eq, mn_eq]
      rw [if_neg (by omega), if_neg (by omega)]
      rw [← mx_eq]; exact hs ()
    · rw [if_neg h]; exact hs ()
  unfold skiarealaw13_SnowpackDensity.f
  rw [alive_eq (by omega)]
  simp only [Option.bind_some, if_true]
  rw [fall_eq]
  simp only [Option.bind_some]
  by_cases h : (fall n m d mm t).2.2.2 = 0
  · rw [if_pos h]
    obtain ⟨h1, h2, h3, h4, h5, h6, e⟩ := fall_ok h
    rw [e]
    unfold Rt at h1
    obtain ⟨p, q⟩ := cm_bd (w := n + m) (a := d) (mm := mm) (b := t) (by omega) (by omega) (by omega) (by omega)
    simp only [mx_eq, mn_eq]
    rw [if_neg (by omega), decide_eq_false (by omega)]
    exact hl
  · rw [if_neg h]; exact hl

theorem hours_law (n m d a b : Int) (ha : 0 ≤ a) (hA : a ≤ 255) (hb : 0 ≤ b) (hB : b ≤ 255) : ∃ k, skiarealaw13_SnowpackHours.f k n m d a b = some true := by
  refine ⟨1001, ?_⟩
  unfold skiarealaw13_SnowpackHours.f
  rw [alive_eq (by omega), w64 (x := a) (by omega) (by omega), w64 (x := b) (by omega) (by omega), w64 (x := a + b) (by omega) (by omega)]
  simp only [Option.bind_some, if_true, settle_eq (show 1000 < 1001 by omega), depth_eq, right_eq]
  by_cases h : Rt n m d
  · have h' := h
    unfold Rt at h'
    obtain ⟨p, q⟩ := hours_bd a.toNat (d := d) (by omega) (by omega)
    obtain ⟨p2, q2⟩ := hours_bd (a + b).toNat (d := d) (by omega) (by omega)
    have e1 : settle n m d a = (n, m, hours a.toNat d, 0) := by unfold settle; rw [if_pos h, if_pos (by omega)]
    have hr1 : Rt n m (hours a.toNat d) := by unfold Rt; omega
    have hr2 : Rt n m (hours (a + b).toNat d) := by unfold Rt; omega
    have e2 : settle n m (hours a.toNat d) b = (n, m, hours (a + b).toNat d, 0) := by
      unfold settle; rw [if_pos hr1, if_pos (by omega), ← hours_add, show a.toNat + b.toNat = (a + b).toNat by omega]
    have e3 : settle n m d (a + b) = (n, m, hours (a + b).toNat d, 0) := by unfold settle; rw [if_pos h, if_pos (by omega)]
    rw [e1]
    simp only [if_true, e2, e3]
    have e4 : depth n m d = ((n + m) * 1000 / d, 0) := by unfold depth; rw [if_pos h]
    have e5 : depth n m (hours (a + b).toNat d) = ((n + m) * 1000 / hours (a + b).toNat d, 0) := by unfold depth; rw [if_pos hr2]
    rw [e4, e5]
    have hle : (n + m) * 1000 / hours (a + b).toNat d ≤ (n + m) * 1000 / d := by
      apply Int.le_ediv_of_mul_le (by omega)
      have z0 : 0 ≤ (n + m) * 1000 / hours (a + b).toNat d := Int.ediv_nonneg (by omega) (by omega)
      have z1 := Int.mul_le_mul_of_nonneg_left p2 z0
      have z2 := Int.ediv_mul_le ((n + m) * 1000) (b := hours (a + b).toNat d) (by omega)
      omega
    simp [hle]
  · have e1 : settle n m d a = (0, 0, 0, 1) := by unfold settle; rw [if_neg h]
    rw [e1]
    simp [h]

theorem holds_eq {n m d w : Int} (h : Rt n m d) (e : n + m = w) : skiarealaw13_holds.f n m d w = some true := by
  unfold skiarealaw13_holds.f
  rw [water_eq]
  simp only [Option.bind_some, right_eq]
  have e1 : water n m d = (n + m, 0) := by unfold water; rw [if_pos h]
  rw [e1]
  simp only [if_true]
  rw [if_pos e, decide_eq_true h]

theorem water_law (n m d a b c mm t : Int) : ∃ k, skiarealaw13_SnowpackWater.f k n m d a b c mm t = some true := by
  refine ⟨1007, ?_⟩
  unfold skiarealaw13_SnowpackWater.f
  rw [alive_eq (by omega)]
  simp only [Option.bind_some, if_true, water_eq]
  by_cases h : Rt n m d
  · by_cases h' : Rt a b c
    · have e1 : water n m d = (n + m, 0) := by unfold water; rw [if_pos h]
      have e2 : water a b c = (a + b, 0) := by unfold water; rw [if_pos h']
      have g := h
      have g' := h'
      unfold Rt at g g'
      have H4 : skiarealaw13_SnowpackWater.j4 1003 mm (n + m) (a + b) false n m d a b c = some true := by
        show skiarealaw13_SnowpackWater.j4 (1002 + 1) mm (n + m) (a + b) false n m d a b c = some true
        simp only [skiarealaw13_SnowpackWater.j4]
        rw [if_neg (by decide), move_eq (by omega)]
        simp only [Option.bind_some]
        by_cases z : (move n m d a b c mm).2.2.2.2.2.2 = 0
        · rw [if_pos z]
          obtain ⟨h1, h2, h3, h4, h5, e⟩ := move_ok z
          rw [e]
          obtain ⟨p, q⟩ := cm_bd (w := a + b) (a := c) (mm := mm) (b := d) (by omega) (by omega) (by omega) (by omega)
          simp only []
          rw [w64 (x := n + m - mm) (by omega) (by omega), w64 (x := a + b + mm) (by omega) (by omega), holds_eq (by unfold Rt; omega) (by omega)]
          simp only [Option.bind_some, if_true]
          rw [holds_eq (by unfold Rt; omega) (by omega)]
          rfl
        · rw [if_neg z]
      have H3 : skiarealaw13_SnowpackWater.j3 1004 mm (n + m) (a + b) false n m d a b c = some true := by
        show skiarealaw13_SnowpackWater.j3 (1003 + 1) mm (n + m) (a + b) false n m d a b c = some true
        simp only [skiarealaw13_SnowpackWater.j3]
        rw [if_neg (by decide), melt_eq]
        simp only [Option.bind_some]
        by_cases z : (melt n m d mm).2.2.2.2 = 0
        · rw [if_pos z]
          obtain ⟨h1, h2, h3, e⟩ := melt_ok z
          rw [e]
          simp only []
          rw [if_neg (by omega), if_neg (by omega), w64 (by omega) (by omega), holds_eq (by unfold Rt; omega) (by omega)]
          exact H4
        · rw [if_neg z]; exact H4
      have H2 : skiarealaw13_SnowpackWater.j2 1005 mm t (n + m) (a + b) false n m d a b c = some true := by
        show skiarealaw13_SnowpackWater.j2 (1004 + 1) mm t (n + m) (a + b) false n m d a b c = some true
        simp only [skiarealaw13_SnowpackWater.j2]
        rw [if_neg (by decide), settle_eq (by omega)]
        simp only [Option.bind_some]
        by_cases z : (settle n m d t).2.2.2 = 0
        · rw [if_pos z]
          obtain ⟨h1, h2, h3, e⟩ := settle_ok z
          rw [e]
          obtain ⟨p, q⟩ := hours_bd t.toNat (d := d) (by omega) (by omega)
          simp only []
          rw [holds_eq (by unfold Rt; omega) rfl]
          exact H3
        · rw [if_neg z]; exact H3
      have H1 : skiarealaw13_SnowpackWater.j1 1006 mm t (n + m) (a + b) false n m d a b c = some true := by
        show skiarealaw13_SnowpackWater.j1 (1005 + 1) mm t (n + m) (a + b) false n m d a b c = some true
        simp only [skiarealaw13_SnowpackWater.j1]
        rw [if_neg (by decide), make_eq]
        simp only [Option.bind_some]
        by_cases z : (make n m d mm).2.2.2 = 0
        · rw [if_pos z]
          obtain ⟨h1, h2, h3, h4, e⟩ := make_ok z
          rw [e]
          obtain ⟨p, q⟩ := cm_bd (w := n + m) (a := d) (mm := mm) (b := 450) (by omega) (by omega) (by omega) (by omega)
          simp only []
          rw [w64 (by omega) (by omega), holds_eq (by unfold Rt; omega) (by omega)]
          exact H2
        · rw [if_neg z]; exact H2
      rw [e1, e2]
      simp only [if_true]
      show skiarealaw13_SnowpackWater.j0 (1006 + 1) mm t (n + m) (a + b) false n m d a b c = some true
      simp only [skiarealaw13_SnowpackWater.j0]
      rw [if_neg (by decide), fall_eq]
      simp only [Option.bind_some]
      by_cases z : (fall n m d mm t).2.2.2 = 0
      · rw [if_pos z]
        obtain ⟨h1, h2, h3, h4, h5, h6, e⟩ := fall_ok z
        rw [e]
        obtain ⟨p, q⟩ := cm_bd (w := n + m) (a := d) (mm := mm) (b := t) (by omega) (by omega) (by omega) (by omega)
        simp only []
        rw [w64 (by omega) (by omega), holds_eq (by unfold Rt; omega) (by omega)]
        exact H1
      · rw [if_neg z]; exact H1
    · have e2 : water a b c = (0, 1) := by unfold water; rw [if_neg h']
      have e1 : water n m d = (n + m, 0) := by unfold water; rw [if_pos h]
      rw [e1, e2]
      simp only [if_true]
      show skiarealaw13_SnowpackWater.j0 (1006 + 1) mm t (n + m) 0 true n m d a b c = some true
      simp only [skiarealaw13_SnowpackWater.j0, right_eq, Option.bind_some, if_true, decide_eq_true h, decide_eq_false h']
      rfl
  · have e1 : water n m d = (0, 1) := by unfold water; rw [if_neg h]
    rw [e1]
    simp only []
    rw [if_neg (by decide)]
    show skiarealaw13_SnowpackWater.j0 (1006 + 1) mm t 0 (water a b c).1 true n m d a b c = some true
    simp only [skiarealaw13_SnowpackWater.j0, right_eq, Option.bind_some, if_true, decide_eq_false h]
    rfl
end Go.Proofs.Yteldaggcdnlpdaa.PP
