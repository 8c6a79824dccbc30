-- Cut down by a program of this session (wip/top/prune.py) from the words that the kit's print wrote for this seat: only what this claim uses. Not trusted: Lean checks it.
import Derived.Test.YtefinjjcbpdljaaZWApart
import Derived.Test.YtefinjjcbpdljaaZWArr
namespace Go.Proofs.YtefinjjcbpdljaaW.PrintWords
open Go.RowKit
section
variable {P : Program}
end
namespace Kd
section
variable {P : Program} {ops : Array Oper} {rest : List Oper} {o : Oper} {a : Act} {Q : Exit → Act → World → Prop} {Kc : Act → World → Prop} {α : Type}
end
section
variable {α : Type} {d : Kd α} {e : Nat} {w : World} {base : Nat} {ok : Nat → Prop} {v : Value} {xs : List α}
end
section
variable {P : Program} {ops : Array Oper} {rest : List Oper} {o : Oper} {a : Act} {Q : Exit → Act → World → Prop} {Kc : Act → World → Prop} {α : Type}
end
end Kd
end Go.Proofs.YtefinjjcbpdljaaW.PrintWords
