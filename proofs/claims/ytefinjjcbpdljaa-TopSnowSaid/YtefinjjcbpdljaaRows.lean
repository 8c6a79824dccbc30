/-
  No cell of these rows narrows 'for every input' (looked for: loops, veiled, ifaces, maps, wideKeys, modest, calm, conditions, laid).
  DERIVED. THE GIVEN ROWS OF THIS SEAT. 8 by the template 'for every input the law returns true; each argument reads behind the call as it read before'; 0 by the template 'total and deterministic' (their statements: YtefinjjcbpdljaaTotals.lean).
  GIVEN WITH THE SEED: the statements are not yours to turn. If you find one false, say at which input.
  Laid BY PROGRAM, IN A SANDBOX (cutbox-rows.mjs): the forced cells as the released guide's own fill.sh prints them over the translation 0507d1bf4df90f2c… (all of the seat's roots in one cut). By AI agents, Wed Nov 11 2026. No macro, syntax, notation, axiom, sorry.
-/
import Derived.Test.YtefinjjcbpdljaaChecked
import GoSem.Claim
import GoSem.ClaimJoined
import GoSem.ClaimMapViews
import Derived.JoinedTies
import Derived.KernelRfl
namespace Go.Proofs.Ytefinjjcbpdljaa
/- THE CELL 'sum', in the pinned program and in every row, IS THE sha256 OF THE DUMP (.gsa) THAT YtefinjjcbpdljaaProg.lean LOADS. Nothing in Lean hashes anything: it is a label: what it is worth is what the hold of that sum in a sandbox is worth. -/
noncomputable def Try.pinned : Pinned := { name := "ytefinjjcbpdljaa", sum := "0507d1bf4df90f2ca62bccd48a72d3dd7b2be9fecb1ef10425eaa0c3517d3952", checked := Try.checked }
namespace Rows
def none {H : Type} : Left H := { results := [], args := [] }

/-- 'skiareatop.TopSnow': WHATEVER THE INPUT: true; the input reads as it did. -/
def topSnowSpec : ChangeSpec := { name := "topSnow", fn := fun _ => fun
  | [d1, d2, d3, d4] => { results := [.lit (.bool true)], args := [d1, d2, d3, d4] }
  | _ => none }
def topSnowRow : OpenClaim := { program := "ytefinjjcbpdljaa", sum := "0507d1bf4df90f2ca62bccd48a72d3dd7b2be9fecb1ef10425eaa0c3517d3952", func := "skiarea/skiareatop.TopSnow", spec := "topSnow", unfollowed := true, recurses := true, apart := false }
def TopSnowSaid : Prop := topSnowRow.holds Try.pinned (OpenSpec.ofChange topSnowSpec)

/-- ITS FALSE NEIGHBOUR: 'it returns false'. Refute it at one input. -/
def topSnowWrong : ChangeSpec := { name := "topSnow", fn := fun _ => fun
  | [d1, d2, d3, d4] => { results := [.lit (.bool false)], args := [d1, d2, d3, d4] }
  | _ => none }
def TopSnowWrongFalsely : Prop := topSnowRow.holds Try.pinned (OpenSpec.ofChange topSnowWrong)

/-- 'skiarealaw43.SnowplanRight': WHATEVER THE INPUT: true; the input reads as it did. -/
def snowplanRightSpec : ChangeSpec := { name := "snowplanRight", fn := fun _ => fun
  | [d1, d2] => { results := [.lit (.bool true)], args := [d1, d2] }
  | _ => none }
def snowplanRightRow : OpenClaim := { program := "ytefinjjcbpdljaa", sum := "0507d1bf4df90f2ca62bccd48a72d3dd7b2be9fecb1ef10425eaa0c3517d3952", func := "skiarea/skiarealaw43.SnowplanRight", spec := "snowplanRight", recurses := true, apart := false }
def SnowplanRightSaid : Prop := snowplanRightRow.holds Try.pinned (OpenSpec.ofChange snowplanRightSpec)

/-- ITS FALSE NEIGHBOUR: 'it returns false'. Refute it at one input. -/
def snowplanRightWrong : ChangeSpec := { name := "snowplanRight", fn := fun _ => fun
  | [d1, d2] => { results := [.lit (.bool false)], args := [d1, d2] }
  | _ => none }
def SnowplanRightWrongFalsely : Prop := snowplanRightRow.holds Try.pinned (OpenSpec.ofChange snowplanRightWrong)

/-- 'skiarealaw43.SnowplanWorth': WHATEVER THE INPUT: true; the input reads as it did. -/
def snowplanWorthSpec : ChangeSpec := { name := "snowplanWorth", fn := fun _ => fun
  | [d1, d2, d3, d4] => { results := [.lit (.bool true)], args := [d1, d2, d3, d4] }
  | _ => none }
def snowplanWorthRow : OpenClaim := { program := "ytefinjjcbpdljaa", sum := "0507d1bf4df90f2ca62bccd48a72d3dd7b2be9fecb1ef10425eaa0c3517d3952", func := "skiarea/skiarealaw43.SnowplanWorth", spec := "snowplanWorth", recurses := true, apart := false }
def SnowplanWorthSaid : Prop := snowplanWorthRow.holds Try.pinned (OpenSpec.ofChange snowplanWorthSpec)

/-- ITS FALSE NEIGHBOUR: 'it returns false'. Refute it at one input. -/
def snowplanWorthWrong : ChangeSpec := { name := "snowplanWorth", fn := fun _ => fun
  | [d1, d2, d3, d4] => { results := [.lit (.bool false)], args := [d1, d2, d3, d4] }
  | _ => none }
def SnowplanWorthWrongFalsely : Prop := snowplanWorthRow.holds Try.pinned (OpenSpec.ofChange snowplanWorthWrong)

/-- 'skiarealaw43.SnowplanGreatest': WHATEVER THE INPUT: true; the input reads as it did. -/
def snowplanGreatestSpec : ChangeSpec := { name := "snowplanGreatest", fn := fun _ => fun
  | [d1, d2, d3] => { results := [.lit (.bool true)], args := [d1, d2, d3] }
  | _ => none }
def snowplanGreatestRow : OpenClaim := { program := "ytefinjjcbpdljaa", sum := "0507d1bf4df90f2ca62bccd48a72d3dd7b2be9fecb1ef10425eaa0c3517d3952", func := "skiarea/skiarealaw43.SnowplanGreatest", spec := "snowplanGreatest", recurses := true, apart := false }
def SnowplanGreatestSaid : Prop := snowplanGreatestRow.holds Try.pinned (OpenSpec.ofChange snowplanGreatestSpec)

/-- ITS FALSE NEIGHBOUR: 'it returns false'. Refute it at one input. -/
def snowplanGreatestWrong : ChangeSpec := { name := "snowplanGreatest", fn := fun _ => fun
  | [d1, d2, d3] => { results := [.lit (.bool false)], args := [d1, d2, d3] }
  | _ => none }
def SnowplanGreatestWrongFalsely : Prop := snowplanGreatestRow.holds Try.pinned (OpenSpec.ofChange snowplanGreatestWrong)

/-- 'skiarealaw43.SnowplanFinds': WHATEVER THE INPUT: true; the input reads as it did. -/
def snowplanFindsSpec : ChangeSpec := { name := "snowplanFinds", fn := fun _ => fun
  | [d1, d2, d3] => { results := [.lit (.bool true)], args := [d1, d2, d3] }
  | _ => none }
def snowplanFindsRow : OpenClaim := { program := "ytefinjjcbpdljaa", sum := "0507d1bf4df90f2ca62bccd48a72d3dd7b2be9fecb1ef10425eaa0c3517d3952", func := "skiarea/skiarealaw43.SnowplanFinds", spec := "snowplanFinds", recurses := true, apart := false }
def SnowplanFindsSaid : Prop := snowplanFindsRow.holds Try.pinned (OpenSpec.ofChange snowplanFindsSpec)

/-- ITS FALSE NEIGHBOUR: 'it returns false'. Refute it at one input. -/
def snowplanFindsWrong : ChangeSpec := { name := "snowplanFinds", fn := fun _ => fun
  | [d1, d2, d3] => { results := [.lit (.bool false)], args := [d1, d2, d3] }
  | _ => none }
def SnowplanFindsWrongFalsely : Prop := snowplanFindsRow.holds Try.pinned (OpenSpec.ofChange snowplanFindsWrong)

/-- 'skiarealaw43.SnowplanBest': WHATEVER THE INPUT: true; the input reads as it did. -/
def snowplanBestSpec : ChangeSpec := { name := "snowplanBest", fn := fun _ => fun
  | [d1, d2, d3, d4] => { results := [.lit (.bool true)], args := [d1, d2, d3, d4] }
  | _ => none }
def snowplanBestRow : OpenClaim := { program := "ytefinjjcbpdljaa", sum := "0507d1bf4df90f2ca62bccd48a72d3dd7b2be9fecb1ef10425eaa0c3517d3952", func := "skiarea/skiarealaw43.SnowplanBest", spec := "snowplanBest", recurses := true, apart := false }
def SnowplanBestSaid : Prop := snowplanBestRow.holds Try.pinned (OpenSpec.ofChange snowplanBestSpec)

/-- ITS FALSE NEIGHBOUR: 'it returns false'. Refute it at one input. -/
def snowplanBestWrong : ChangeSpec := { name := "snowplanBest", fn := fun _ => fun
  | [d1, d2, d3, d4] => { results := [.lit (.bool false)], args := [d1, d2, d3, d4] }
  | _ => none }
def SnowplanBestWrongFalsely : Prop := snowplanBestRow.holds Try.pinned (OpenSpec.ofChange snowplanBestWrong)

/-- 'skiarealaw43.SnowplanMore': WHATEVER THE INPUT: true; the input reads as it did. -/
def snowplanMoreSpec : ChangeSpec := { name := "snowplanMore", fn := fun _ => fun
  | [d1, d2, d3, d4, d5] => { results := [.lit (.bool true)], args := [d1, d2, d3, d4, d5] }
  | _ => none }
def snowplanMoreRow : OpenClaim := { program := "ytefinjjcbpdljaa", sum := "0507d1bf4df90f2ca62bccd48a72d3dd7b2be9fecb1ef10425eaa0c3517d3952", func := "skiarea/skiarealaw43.SnowplanMore", spec := "snowplanMore", recurses := true, apart := false }
def SnowplanMoreSaid : Prop := snowplanMoreRow.holds Try.pinned (OpenSpec.ofChange snowplanMoreSpec)

/-- ITS FALSE NEIGHBOUR: 'it returns false'. Refute it at one input. -/
def snowplanMoreWrong : ChangeSpec := { name := "snowplanMore", fn := fun _ => fun
  | [d1, d2, d3, d4, d5] => { results := [.lit (.bool false)], args := [d1, d2, d3, d4, d5] }
  | _ => none }
def SnowplanMoreWrongFalsely : Prop := snowplanMoreRow.holds Try.pinned (OpenSpec.ofChange snowplanMoreWrong)

/-- 'skiarealaw43.SnowplanApart': WHATEVER THE INPUT: true; the input reads as it did. -/
def snowplanApartSpec : ChangeSpec := { name := "snowplanApart", fn := fun _ => fun
  | [d1, d2, d3] => { results := [.lit (.bool true)], args := [d1, d2, d3] }
  | _ => none }
def snowplanApartRow : OpenClaim := { program := "ytefinjjcbpdljaa", sum := "0507d1bf4df90f2ca62bccd48a72d3dd7b2be9fecb1ef10425eaa0c3517d3952", func := "skiarea/skiarealaw43.SnowplanApart", spec := "snowplanApart", recurses := true, apart := false }
def SnowplanApartSaid : Prop := snowplanApartRow.holds Try.pinned (OpenSpec.ofChange snowplanApartSpec)

/-- ITS FALSE NEIGHBOUR: 'it returns false'. Refute it at one input. -/
def snowplanApartWrong : ChangeSpec := { name := "snowplanApart", fn := fun _ => fun
  | [d1, d2, d3] => { results := [.lit (.bool false)], args := [d1, d2, d3] }
  | _ => none }
def SnowplanApartWrongFalsely : Prop := snowplanApartRow.holds Try.pinned (OpenSpec.ofChange snowplanApartWrong)

/- THE SECOND FORM. 'bulk': how many values and letters a reading holds, each counted each time it is reached (what is shared counts as often as it is met; a slice's spare places count too). A statement '..UptoSaid' is the law's where the arguments, and the package variables that the reading takes, are together of bulk at most 1048576: NARROWER than '..Said'. Prove '..Said' where nothing that the law and all that it calls make is longer than what came in: it says more and counts as full. Else prove '..UptoSaid'. A law counts once. -/
mutual
def uptoBulk {H : Type} : DataW H → Nat
  | .lit (.string bytes) => bytes.length + 1
  | .lit _ => 1
  | .nil => 1
  | .ptr d => uptoBulk d + 1
  | .slice elems spare => uptoBulkAll elems + uptoBulkAll spare + 1
  | .agg parts => uptoBulkAll parts + 1
  | .iface _ d => uptoBulk d + 1
  | .map entries => uptoBulkEntries entries + 1
  | .held _ => 1
def uptoBulkAll {H : Type} : List (DataW H) → Nat
  | [] => 0
  | d :: r => uptoBulk d + uptoBulkAll r
def uptoBulkEntries {H : Type} : List (Lit × DataW H) → Nat
  | [] => 0
  | x :: r => uptoBulkEntry x + uptoBulkEntries r
def uptoBulkEntry {H : Type} : Lit × DataW H → Nat
  | (.string bytes, d) => bytes.length + uptoBulk d + 1
  | (_, d) => uptoBulk d + 1
 end
def uptoSmall : (H : Type) → List (DataW H) → Bool := fun _ ds => decide (uptoBulkAll ds ≤ 1048576)
def OpenSpec.upto (s : _root_.Go.ChangeSpec) : _root_.Go.OpenSpec := { _root_.Go.OpenSpec.ofChange s with cond := some uptoSmall }

/-- 'skiareatop.TopSnow', WHERE WHAT IT READS IS OF BULK AT MOST 1048576: true; the input reads as it did. -/
def topSnowUptoRow : OpenClaim := { program := "ytefinjjcbpdljaa", sum := "0507d1bf4df90f2ca62bccd48a72d3dd7b2be9fecb1ef10425eaa0c3517d3952", func := "skiarea/skiareatop.TopSnow", spec := "topSnow", unfollowed := true, recurses := true, apart := false, narrowed := true }
def TopSnowUptoSaid : Prop := topSnowUptoRow.holds Try.pinned (OpenSpec.upto topSnowSpec)

/-- 'skiarealaw43.SnowplanRight', WHERE WHAT IT READS IS OF BULK AT MOST 1048576: true; the input reads as it did. -/
def snowplanRightUptoRow : OpenClaim := { program := "ytefinjjcbpdljaa", sum := "0507d1bf4df90f2ca62bccd48a72d3dd7b2be9fecb1ef10425eaa0c3517d3952", func := "skiarea/skiarealaw43.SnowplanRight", spec := "snowplanRight", recurses := true, apart := false, narrowed := true }
def SnowplanRightUptoSaid : Prop := snowplanRightUptoRow.holds Try.pinned (OpenSpec.upto snowplanRightSpec)

/-- 'skiarealaw43.SnowplanWorth', WHERE WHAT IT READS IS OF BULK AT MOST 1048576: true; the input reads as it did. -/
def snowplanWorthUptoRow : OpenClaim := { program := "ytefinjjcbpdljaa", sum := "0507d1bf4df90f2ca62bccd48a72d3dd7b2be9fecb1ef10425eaa0c3517d3952", func := "skiarea/skiarealaw43.SnowplanWorth", spec := "snowplanWorth", recurses := true, apart := false, narrowed := true }
def SnowplanWorthUptoSaid : Prop := snowplanWorthUptoRow.holds Try.pinned (OpenSpec.upto snowplanWorthSpec)

/-- 'skiarealaw43.SnowplanGreatest', WHERE WHAT IT READS IS OF BULK AT MOST 1048576: true; the input reads as it did. -/
def snowplanGreatestUptoRow : OpenClaim := { program := "ytefinjjcbpdljaa", sum := "0507d1bf4df90f2ca62bccd48a72d3dd7b2be9fecb1ef10425eaa0c3517d3952", func := "skiarea/skiarealaw43.SnowplanGreatest", spec := "snowplanGreatest", recurses := true, apart := false, narrowed := true }
def SnowplanGreatestUptoSaid : Prop := snowplanGreatestUptoRow.holds Try.pinned (OpenSpec.upto snowplanGreatestSpec)

/-- 'skiarealaw43.SnowplanFinds', WHERE WHAT IT READS IS OF BULK AT MOST 1048576: true; the input reads as it did. -/
def snowplanFindsUptoRow : OpenClaim := { program := "ytefinjjcbpdljaa", sum := "0507d1bf4df90f2ca62bccd48a72d3dd7b2be9fecb1ef10425eaa0c3517d3952", func := "skiarea/skiarealaw43.SnowplanFinds", spec := "snowplanFinds", recurses := true, apart := false, narrowed := true }
def SnowplanFindsUptoSaid : Prop := snowplanFindsUptoRow.holds Try.pinned (OpenSpec.upto snowplanFindsSpec)

/-- 'skiarealaw43.SnowplanBest', WHERE WHAT IT READS IS OF BULK AT MOST 1048576: true; the input reads as it did. -/
def snowplanBestUptoRow : OpenClaim := { program := "ytefinjjcbpdljaa", sum := "0507d1bf4df90f2ca62bccd48a72d3dd7b2be9fecb1ef10425eaa0c3517d3952", func := "skiarea/skiarealaw43.SnowplanBest", spec := "snowplanBest", recurses := true, apart := false, narrowed := true }
def SnowplanBestUptoSaid : Prop := snowplanBestUptoRow.holds Try.pinned (OpenSpec.upto snowplanBestSpec)

/-- 'skiarealaw43.SnowplanMore', WHERE WHAT IT READS IS OF BULK AT MOST 1048576: true; the input reads as it did. -/
def snowplanMoreUptoRow : OpenClaim := { program := "ytefinjjcbpdljaa", sum := "0507d1bf4df90f2ca62bccd48a72d3dd7b2be9fecb1ef10425eaa0c3517d3952", func := "skiarea/skiarealaw43.SnowplanMore", spec := "snowplanMore", recurses := true, apart := false, narrowed := true }
def SnowplanMoreUptoSaid : Prop := snowplanMoreUptoRow.holds Try.pinned (OpenSpec.upto snowplanMoreSpec)

/-- 'skiarealaw43.SnowplanApart', WHERE WHAT IT READS IS OF BULK AT MOST 1048576: true; the input reads as it did. -/
def snowplanApartUptoRow : OpenClaim := { program := "ytefinjjcbpdljaa", sum := "0507d1bf4df90f2ca62bccd48a72d3dd7b2be9fecb1ef10425eaa0c3517d3952", func := "skiarea/skiarealaw43.SnowplanApart", spec := "snowplanApart", recurses := true, apart := false, narrowed := true }
def SnowplanApartUptoSaid : Prop := snowplanApartUptoRow.holds Try.pinned (OpenSpec.upto snowplanApartSpec)

end Rows
end Go.Proofs.Ytefinjjcbpdljaa
