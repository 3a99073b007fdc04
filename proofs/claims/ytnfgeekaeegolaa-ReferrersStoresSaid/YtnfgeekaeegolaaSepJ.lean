import Derived.Test.YtnfgeekaeegolaaSepY
import Derived.Lib.AppendZerosOnto
/-! append of n zeros to nil: what slices.Grow does -/
namespace Go.Own
open Go Go.RowKit
section
variable {P : Program} {ops : Array Oper} {l : List Oper} {o : Oper} {A : Act} {Q : Exit → Act → World → Prop} {w w0 : World} {X : Nat → Prop} {cs : List HP} {d : Tmp} {x y : Operand}
end
end Go.Own
