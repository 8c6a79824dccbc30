/- What the cells of a gun and of an hour read as. No conditions. -/
import Derived.Test.YtefinjjcbpdljaaZPPx0
import Derived.Test.YtefinjjcbpdljaaZOpens
import Derived.ChangeSame
import Derived.Lib.SmallJoins
namespace Go.Proofs.Ytefinjjcbpdljaa.PB
open Go.ChangeShapes Go.WideShapes Go.ChangeAt Go.RowKit Go.Deep Go.Joins
open Go.Proofs.YtefinjjcbpdljaaW.PrintWords
theorem four_of {α : Type} (cs : List α) (h : cs.length = 4) : ∃ c0 c1 c2 c3, cs = [c0, c1, c2, c3] := by
  match cs, h with
  | [c0, c1, c2, c3], _ => exact ⟨c0, c1, c2, c3, rfl⟩
theorem two_of {α : Type} (cs : List α) (h : cs.length = 2) : ∃ c0 c1, cs = [c0, c1] := by
  match cs, h with
  | [c0, c1], _ => exact ⟨c0, c1, rfl⟩
section
variable {H : Type} {enc : TypeId × Value → H} {w : World} {held : Bool}
theorem cells_i64 : Try.prog.cellsOf 3 = 1 := by kernel_rfl
theorem elems_42 : Opens.Elems enc Try.prog w held k42 (fun _ => True) 42 := by
  intro n cs y hl h
  obtain ⟨y0, y1, y2, y3, m, _, _, h0, h1, h2, h3⟩ := trod_struct4 Try.underlying42 h
  obtain ⟨c0, c1, c2, c3, rfl⟩ := four_of cs hl
  simp only [cells_i64] at h0 h1 h2 h3
  obtain ⟨a, ea, _, _⟩ := DataW.trod_int Try.underlying3 h0
  obtain ⟨b, eb, _, _⟩ := DataW.trod_int Try.underlying3 h1
  obtain ⟨c, ec, _, _⟩ := DataW.trod_int Try.underlying3 h2
  obtain ⟨d, ed, _, _⟩ := DataW.trod_int Try.underlying3 h3
  simp at ea eb ec ed
  subst ea eb ec ed
  exact ⟨⟨a, b, c, d⟩, k42_mk w _, trivial⟩
theorem elems_39 : Opens.Elems enc Try.prog w held k39 (fun _ => True) 39 := by
  intro n cs y hl h
  obtain ⟨y0, y1, m, _, _, h0, h1⟩ := trod_struct2 Try.underlying39 h
  obtain ⟨c0, c1, rfl⟩ := two_of cs hl
  simp only [cells_i64] at h0 h1
  obtain ⟨a, ea, _, _⟩ := DataW.trod_int Try.underlying3 h0
  obtain ⟨b, eb, _, _⟩ := DataW.trod_int Try.underlying3 h1
  simp at ea eb
  subst ea eb
  exact ⟨⟨a, b⟩, k39_mk w _, trivial⟩
end
end Go.Proofs.Ytefinjjcbpdljaa.PB
