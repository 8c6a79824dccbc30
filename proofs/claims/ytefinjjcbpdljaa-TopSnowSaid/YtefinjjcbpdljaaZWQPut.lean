-- Cut down by a program of this session (wip/top/prune.py) from the words that the kit's print wrote for this seat: only what this claim uses. Not trusted: Lean checks it.
import Derived.Test.YtefinjjcbpdljaaZWWords
import Derived.Test.YtefinjjcbpdljaaZWLast
namespace Go.Proofs.YtefinjjcbpdljaaW.PrintWords
open Go.RowKit
namespace Kd
section
variable {α : Type} {d : Kd α} {e base g o n cap : Nat} {ok okp : Nat → Prop} {w W : World} {v : Value} {xs : List α}
end
section
variable {α : Type} {enc : α → Value} {h1 : ∀ x, (enc x).oneCell' = true} {e base g o n cap : Nat} {ok : Nat → Prop} {W : World} {xs : List α}
end
end Kd
end Go.Proofs.YtefinjjcbpdljaaW.PrintWords
