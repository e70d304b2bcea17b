import Derived.Test.YtknhbphhdfknaaaGreatDoorCxL
import Derived.Laws.FloatArith
import Derived.Laws.ComplexArith
import Derived.Laws.Cover2
import Derived.Laws.LoneSync
set_option linter.unusedVariables false
set_option linter.unusedSimpArgs false
namespace Go.Proofs.YtknhbphhdfknaaaGreatDoor
open Go.RowKit
section
variable {T : Tab} {P : Program} {n : Nat} {ops : Array Oper} {w w0 : World} {e : EL} {a : Act} {C : World → Prop}
variable {d ty t yt : Nat} {ps : String} {af : Array Edge} {g : Option (Nat × Bool)} {x y : Operand} {A B z : Nat}
end
end Go.Proofs.YtknhbphhdfknaaaGreatDoor
