/-
  No cell of these rows narrows 'for every input' (looked for: loops, veiled, ifaces, maps, wideKeys, modest, calm, conditions, laid).
  DERIVED. THE GIVEN ROWS OF THIS SEAT. 9 by the template 'for every input the law returns true; each argument reads behind the call as it read before'; 0 by the template 'total and deterministic' (their statements: YteldaggcdnlpdaaTotals.lean).
  GIVEN WITH THE SEED: the statements are not yours to turn. If you find one false, say at which input.
  Laid BY PROGRAM, IN A SANDBOX (cutbox-rows.mjs): the forced cells as the released guide's own fill.sh prints them over the translation 22314fe04807a364… (all of the seat's roots in one cut). By AI agents, Wed Nov 11 2026. No macro, syntax, notation, axiom, sorry.
-/
import Derived.Test.YteldaggcdnlpdaaChecked
import GoSem.Claim
import GoSem.ClaimJoined
import GoSem.ClaimMapViews
import Derived.JoinedTies
import Derived.KernelRfl
namespace Go.Proofs.Yteldaggcdnlpdaa
/- THE CELL 'sum', in the pinned program and in every row, IS THE sha256 OF THE DUMP (.gsa) THAT YteldaggcdnlpdaaProg.lean LOADS. Nothing in Lean hashes anything: it is a label: what it is worth is what the hold of that sum in a sandbox is worth. -/
noncomputable def Try.pinned : Pinned := { name := "yteldaggcdnlpdaa", sum := "22314fe04807a364d1343724c4e18f4b0e08a3901df2679c810e03ccd69638a8", checked := Try.checked }
namespace Rows
def none {H : Type} : Left H := { results := [], args := [] }

/-- 'skiarealaw13.SnowpackMeasures': WHATEVER THE INPUT: true; the input reads as it did. -/
def snowpackMeasuresSpec : ChangeSpec := { name := "snowpackMeasures", fn := fun _ => fun
  | [d] => { results := [.lit (.bool true)], args := [d] }
  | _ => none }
def snowpackMeasuresRow : OpenClaim := { program := "yteldaggcdnlpdaa", sum := "22314fe04807a364d1343724c4e18f4b0e08a3901df2679c810e03ccd69638a8", func := "skiarea/skiarealaw13.SnowpackMeasures", spec := "snowpackMeasures", apart := false }
def SnowpackMeasuresSaid : Prop := snowpackMeasuresRow.holds Try.pinned (OpenSpec.ofChange snowpackMeasuresSpec)

/-- ITS FALSE NEIGHBOUR: 'it returns false'. Refute it at one input. -/
def snowpackMeasuresWrong : ChangeSpec := { name := "snowpackMeasures", fn := fun _ => fun
  | [d] => { results := [.lit (.bool false)], args := [d] }
  | _ => none }
def SnowpackMeasuresWrongFalsely : Prop := snowpackMeasuresRow.holds Try.pinned (OpenSpec.ofChange snowpackMeasuresWrong)

/-- 'skiarealaw13.SnowpackFalls': WHATEVER THE INPUT: true; the input reads as it did. -/
def snowpackFallsSpec : ChangeSpec := { name := "snowpackFalls", fn := fun _ => fun
  | [d1, d2, d3] => { results := [.lit (.bool true)], args := [d1, d2, d3] }
  | _ => none }
def snowpackFallsRow : OpenClaim := { program := "yteldaggcdnlpdaa", sum := "22314fe04807a364d1343724c4e18f4b0e08a3901df2679c810e03ccd69638a8", func := "skiarea/skiarealaw13.SnowpackFalls", spec := "snowpackFalls", apart := false }
def SnowpackFallsSaid : Prop := snowpackFallsRow.holds Try.pinned (OpenSpec.ofChange snowpackFallsSpec)

/-- ITS FALSE NEIGHBOUR: 'it returns false'. Refute it at one input. -/
def snowpackFallsWrong : ChangeSpec := { name := "snowpackFalls", fn := fun _ => fun
  | [d1, d2, d3] => { results := [.lit (.bool false)], args := [d1, d2, d3] }
  | _ => none }
def SnowpackFallsWrongFalsely : Prop := snowpackFallsRow.holds Try.pinned (OpenSpec.ofChange snowpackFallsWrong)

/-- 'skiarealaw13.SnowpackSettles': WHATEVER THE INPUT: true; the input reads as it did. -/
def snowpackSettlesSpec : ChangeSpec := { name := "snowpackSettles", fn := fun _ => fun
  | [d1, d2] => { results := [.lit (.bool true)], args := [d1, d2] }
  | _ => none }
def snowpackSettlesRow : OpenClaim := { program := "yteldaggcdnlpdaa", sum := "22314fe04807a364d1343724c4e18f4b0e08a3901df2679c810e03ccd69638a8", func := "skiarea/skiarealaw13.SnowpackSettles", spec := "snowpackSettles", apart := false }
def SnowpackSettlesSaid : Prop := snowpackSettlesRow.holds Try.pinned (OpenSpec.ofChange snowpackSettlesSpec)

/-- ITS FALSE NEIGHBOUR: 'it returns false'. Refute it at one input. -/
def snowpackSettlesWrong : ChangeSpec := { name := "snowpackSettles", fn := fun _ => fun
  | [d1, d2] => { results := [.lit (.bool false)], args := [d1, d2] }
  | _ => none }
def SnowpackSettlesWrongFalsely : Prop := snowpackSettlesRow.holds Try.pinned (OpenSpec.ofChange snowpackSettlesWrong)

/-- 'skiarealaw13.SnowpackMelts': WHATEVER THE INPUT: true; the input reads as it did. -/
def snowpackMeltsSpec : ChangeSpec := { name := "snowpackMelts", fn := fun _ => fun
  | [d1, d2] => { results := [.lit (.bool true)], args := [d1, d2] }
  | _ => none }
def snowpackMeltsRow : OpenClaim := { program := "yteldaggcdnlpdaa", sum := "22314fe04807a364d1343724c4e18f4b0e08a3901df2679c810e03ccd69638a8", func := "skiarea/skiarealaw13.SnowpackMelts", spec := "snowpackMelts", apart := false }
def SnowpackMeltsSaid : Prop := snowpackMeltsRow.holds Try.pinned (OpenSpec.ofChange snowpackMeltsSpec)

/-- ITS FALSE NEIGHBOUR: 'it returns false'. Refute it at one input. -/
def snowpackMeltsWrong : ChangeSpec := { name := "snowpackMelts", fn := fun _ => fun
  | [d1, d2] => { results := [.lit (.bool false)], args := [d1, d2] }
  | _ => none }
def SnowpackMeltsWrongFalsely : Prop := snowpackMeltsRow.holds Try.pinned (OpenSpec.ofChange snowpackMeltsWrong)

/-- 'skiarealaw13.SnowpackMoves': WHATEVER THE INPUT: true; the input reads as it did. -/
def snowpackMovesSpec : ChangeSpec := { name := "snowpackMoves", fn := fun _ => fun
  | [d1, d2, d3] => { results := [.lit (.bool true)], args := [d1, d2, d3] }
  | _ => none }
def snowpackMovesRow : OpenClaim := { program := "yteldaggcdnlpdaa", sum := "22314fe04807a364d1343724c4e18f4b0e08a3901df2679c810e03ccd69638a8", func := "skiarea/skiarealaw13.SnowpackMoves", spec := "snowpackMoves", apart := false }
def SnowpackMovesSaid : Prop := snowpackMovesRow.holds Try.pinned (OpenSpec.ofChange snowpackMovesSpec)

/-- ITS FALSE NEIGHBOUR: 'it returns false'. Refute it at one input. -/
def snowpackMovesWrong : ChangeSpec := { name := "snowpackMoves", fn := fun _ => fun
  | [d1, d2, d3] => { results := [.lit (.bool false)], args := [d1, d2, d3] }
  | _ => none }
def SnowpackMovesWrongFalsely : Prop := snowpackMovesRow.holds Try.pinned (OpenSpec.ofChange snowpackMovesWrong)

/-- 'skiarealaw13.SnowpackDensity': WHATEVER THE INPUT: true; the input reads as it did. -/
def snowpackDensitySpec : ChangeSpec := { name := "snowpackDensity", fn := fun _ => fun
  | [d1, d2, d3, d4] => { results := [.lit (.bool true)], args := [d1, d2, d3, d4] }
  | _ => none }
def snowpackDensityRow : OpenClaim := { program := "yteldaggcdnlpdaa", sum := "22314fe04807a364d1343724c4e18f4b0e08a3901df2679c810e03ccd69638a8", func := "skiarea/skiarealaw13.SnowpackDensity", spec := "snowpackDensity", apart := false }
def SnowpackDensitySaid : Prop := snowpackDensityRow.holds Try.pinned (OpenSpec.ofChange snowpackDensitySpec)

/-- ITS FALSE NEIGHBOUR: 'it returns false'. Refute it at one input. -/
def snowpackDensityWrong : ChangeSpec := { name := "snowpackDensity", fn := fun _ => fun
  | [d1, d2, d3, d4] => { results := [.lit (.bool false)], args := [d1, d2, d3, d4] }
  | _ => none }
def SnowpackDensityWrongFalsely : Prop := snowpackDensityRow.holds Try.pinned (OpenSpec.ofChange snowpackDensityWrong)

/-- 'skiarealaw13.SnowpackHours': WHATEVER THE INPUT: true; the input reads as it did. -/
def snowpackHoursSpec : ChangeSpec := { name := "snowpackHours", fn := fun _ => fun
  | [d1, d2, d3] => { results := [.lit (.bool true)], args := [d1, d2, d3] }
  | _ => none }
def snowpackHoursRow : OpenClaim := { program := "yteldaggcdnlpdaa", sum := "22314fe04807a364d1343724c4e18f4b0e08a3901df2679c810e03ccd69638a8", func := "skiarea/skiarealaw13.SnowpackHours", spec := "snowpackHours", apart := false }
def SnowpackHoursSaid : Prop := snowpackHoursRow.holds Try.pinned (OpenSpec.ofChange snowpackHoursSpec)

/-- ITS FALSE NEIGHBOUR: 'it returns false'. Refute it at one input. -/
def snowpackHoursWrong : ChangeSpec := { name := "snowpackHours", fn := fun _ => fun
  | [d1, d2, d3] => { results := [.lit (.bool false)], args := [d1, d2, d3] }
  | _ => none }
def SnowpackHoursWrongFalsely : Prop := snowpackHoursRow.holds Try.pinned (OpenSpec.ofChange snowpackHoursWrong)

/-- 'skiarealaw13.SnowpackMakes': WHATEVER THE INPUT: true; the input reads as it did. -/
def snowpackMakesSpec : ChangeSpec := { name := "snowpackMakes", fn := fun _ => fun
  | [d1, d2] => { results := [.lit (.bool true)], args := [d1, d2] }
  | _ => none }
def snowpackMakesRow : OpenClaim := { program := "yteldaggcdnlpdaa", sum := "22314fe04807a364d1343724c4e18f4b0e08a3901df2679c810e03ccd69638a8", func := "skiarea/skiarealaw13.SnowpackMakes", spec := "snowpackMakes", apart := false }
def SnowpackMakesSaid : Prop := snowpackMakesRow.holds Try.pinned (OpenSpec.ofChange snowpackMakesSpec)

/-- ITS FALSE NEIGHBOUR: 'it returns false'. Refute it at one input. -/
def snowpackMakesWrong : ChangeSpec := { name := "snowpackMakes", fn := fun _ => fun
  | [d1, d2] => { results := [.lit (.bool false)], args := [d1, d2] }
  | _ => none }
def SnowpackMakesWrongFalsely : Prop := snowpackMakesRow.holds Try.pinned (OpenSpec.ofChange snowpackMakesWrong)

/-- 'skiarealaw13.SnowpackWater': WHATEVER THE INPUT: true; the input reads as it did. -/
def snowpackWaterSpec : ChangeSpec := { name := "snowpackWater", fn := fun _ => fun
  | [d1, d2, d3, d4] => { results := [.lit (.bool true)], args := [d1, d2, d3, d4] }
  | _ => none }
def snowpackWaterRow : OpenClaim := { program := "yteldaggcdnlpdaa", sum := "22314fe04807a364d1343724c4e18f4b0e08a3901df2679c810e03ccd69638a8", func := "skiarea/skiarealaw13.SnowpackWater", spec := "snowpackWater", apart := false }
def SnowpackWaterSaid : Prop := snowpackWaterRow.holds Try.pinned (OpenSpec.ofChange snowpackWaterSpec)

/-- ITS FALSE NEIGHBOUR: 'it returns false'. Refute it at one input. -/
def snowpackWaterWrong : ChangeSpec := { name := "snowpackWater", fn := fun _ => fun
  | [d1, d2, d3, d4] => { results := [.lit (.bool false)], args := [d1, d2, d3, d4] }
  | _ => none }
def SnowpackWaterWrongFalsely : Prop := snowpackWaterRow.holds Try.pinned (OpenSpec.ofChange snowpackWaterWrong)

/- THE SECOND FORM. 'bulk': how many values and letters a reading holds, each counted each time it is reached (what is shared counts as often as it is met; a slice's spare places count too). A statement '..UptoSaid' is the law's where the arguments, and the package variables that the reading takes, are together of bulk at most 1048576: NARROWER than '..Said'. Prove '..Said' where nothing that the law and all that it calls make is longer than what came in: it says more and counts as full. Else prove '..UptoSaid'. A law counts once. -/
mutual
def uptoBulk {H : Type} : DataW H → Nat
  | .lit (.string bytes) => bytes.length + 1
  | .lit _ => 1
  | .nil => 1
  | .ptr d => uptoBulk d + 1
  | .slice elems spare => uptoBulkAll elems + uptoBulkAll spare + 1
  | .agg parts => uptoBulkAll parts + 1
  | .iface _ d => uptoBulk d + 1
  | .map entries => uptoBulkEntries entries + 1
  | .held _ => 1
def uptoBulkAll {H : Type} : List (DataW H) → Nat
  | [] => 0
  | d :: r => uptoBulk d + uptoBulkAll r
def uptoBulkEntries {H : Type} : List (Lit × DataW H) → Nat
  | [] => 0
  | x :: r => uptoBulkEntry x + uptoBulkEntries r
def uptoBulkEntry {H : Type} : Lit × DataW H → Nat
  | (.string bytes, d) => bytes.length + uptoBulk d + 1
  | (_, d) => uptoBulk d + 1
 end
def uptoSmall : (H : Type) → List (DataW H) → Bool := fun _ ds => decide (uptoBulkAll ds ≤ 1048576)
def OpenSpec.upto (s : _root_.Go.ChangeSpec) : _root_.Go.OpenSpec := { _root_.Go.OpenSpec.ofChange s with cond := some uptoSmall }

/-- 'skiarealaw13.SnowpackMeasures', WHERE WHAT IT READS IS OF BULK AT MOST 1048576: true; the input reads as it did. -/
def snowpackMeasuresUptoRow : OpenClaim := { program := "yteldaggcdnlpdaa", sum := "22314fe04807a364d1343724c4e18f4b0e08a3901df2679c810e03ccd69638a8", func := "skiarea/skiarealaw13.SnowpackMeasures", spec := "snowpackMeasures", apart := false, narrowed := true }
def SnowpackMeasuresUptoSaid : Prop := snowpackMeasuresUptoRow.holds Try.pinned (OpenSpec.upto snowpackMeasuresSpec)

/-- 'skiarealaw13.SnowpackFalls', WHERE WHAT IT READS IS OF BULK AT MOST 1048576: true; the input reads as it did. -/
def snowpackFallsUptoRow : OpenClaim := { program := "yteldaggcdnlpdaa", sum := "22314fe04807a364d1343724c4e18f4b0e08a3901df2679c810e03ccd69638a8", func := "skiarea/skiarealaw13.SnowpackFalls", spec := "snowpackFalls", apart := false, narrowed := true }
def SnowpackFallsUptoSaid : Prop := snowpackFallsUptoRow.holds Try.pinned (OpenSpec.upto snowpackFallsSpec)

/-- 'skiarealaw13.SnowpackSettles', WHERE WHAT IT READS IS OF BULK AT MOST 1048576: true; the input reads as it did. -/
def snowpackSettlesUptoRow : OpenClaim := { program := "yteldaggcdnlpdaa", sum := "22314fe04807a364d1343724c4e18f4b0e08a3901df2679c810e03ccd69638a8", func := "skiarea/skiarealaw13.SnowpackSettles", spec := "snowpackSettles", apart := false, narrowed := true }
def SnowpackSettlesUptoSaid : Prop := snowpackSettlesUptoRow.holds Try.pinned (OpenSpec.upto snowpackSettlesSpec)

/-- 'skiarealaw13.SnowpackMelts', WHERE WHAT IT READS IS OF BULK AT MOST 1048576: true; the input reads as it did. -/
def snowpackMeltsUptoRow : OpenClaim := { program := "yteldaggcdnlpdaa", sum := "22314fe04807a364d1343724c4e18f4b0e08a3901df2679c810e03ccd69638a8", func := "skiarea/skiarealaw13.SnowpackMelts", spec := "snowpackMelts", apart := false, narrowed := true }
def SnowpackMeltsUptoSaid : Prop := snowpackMeltsUptoRow.holds Try.pinned (OpenSpec.upto snowpackMeltsSpec)

/-- 'skiarealaw13.SnowpackMoves', WHERE WHAT IT READS IS OF BULK AT MOST 1048576: true; the input reads as it did. -/
def snowpackMovesUptoRow : OpenClaim := { program := "yteldaggcdnlpdaa", sum := "22314fe04807a364d1343724c4e18f4b0e08a3901df2679c810e03ccd69638a8", func := "skiarea/skiarealaw13.SnowpackMoves", spec := "snowpackMoves", apart := false, narrowed := true }
def SnowpackMovesUptoSaid : Prop := snowpackMovesUptoRow.holds Try.pinned (OpenSpec.upto snowpackMovesSpec)

/-- 'skiarealaw13.SnowpackDensity', WHERE WHAT IT READS IS OF BULK AT MOST 1048576: true; the input reads as it did. -/
def snowpackDensityUptoRow : OpenClaim := { program := "yteldaggcdnlpdaa", sum := "22314fe04807a364d1343724c4e18f4b0e08a3901df2679c810e03ccd69638a8", func := "skiarea/skiarealaw13.SnowpackDensity", spec := "snowpackDensity", apart := false, narrowed := true }
def SnowpackDensityUptoSaid : Prop := snowpackDensityUptoRow.holds Try.pinned (OpenSpec.upto snowpackDensitySpec)

/-- 'skiarealaw13.SnowpackHours', WHERE WHAT IT READS IS OF BULK AT MOST 1048576: true; the input reads as it did. -/
def snowpackHoursUptoRow : OpenClaim := { program := "yteldaggcdnlpdaa", sum := "22314fe04807a364d1343724c4e18f4b0e08a3901df2679c810e03ccd69638a8", func := "skiarea/skiarealaw13.SnowpackHours", spec := "snowpackHours", apart := false, narrowed := true }
def SnowpackHoursUptoSaid : Prop := snowpackHoursUptoRow.holds Try.pinned (OpenSpec.upto snowpackHoursSpec)

/-- 'skiarealaw13.SnowpackMakes', WHERE WHAT IT READS IS OF BULK AT MOST 1048576: true; the input reads as it did. -/
def snowpackMakesUptoRow : OpenClaim := { program := "yteldaggcdnlpdaa", sum := "22314fe04807a364d1343724c4e18f4b0e08a3901df2679c810e03ccd69638a8", func := "skiarea/skiarealaw13.SnowpackMakes", spec := "snowpackMakes", apart := false, narrowed := true }
def SnowpackMakesUptoSaid : Prop := snowpackMakesUptoRow.holds Try.pinned (OpenSpec.upto snowpackMakesSpec)

/-- 'skiarealaw13.SnowpackWater', WHERE WHAT IT READS IS OF BULK AT MOST 1048576: true; the input reads as it did. -/
def snowpackWaterUptoRow : OpenClaim := { program := "yteldaggcdnlpdaa", sum := "22314fe04807a364d1343724c4e18f4b0e08a3901df2679c810e03ccd69638a8", func := "skiarea/skiarealaw13.SnowpackWater", spec := "snowpackWater", apart := false, narrowed := true }
def SnowpackWaterUptoSaid : Prop := snowpackWaterUptoRow.holds Try.pinned (OpenSpec.upto snowpackWaterSpec)

end Rows
end Go.Proofs.Yteldaggcdnlpdaa
