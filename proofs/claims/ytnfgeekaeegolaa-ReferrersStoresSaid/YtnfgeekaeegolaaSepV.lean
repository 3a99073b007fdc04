import Derived.Test.YtnfgeekaeegolaaSepO
/-! nil slices and pointers; maps from ints to bools -/
namespace Go.Own
open Go Go.RowKit
section
variable {P : Program} {A : Act} {o : Oper} {x y : Operand}
def nilB (v : Value) : Bool := match v with | .slice a _ _ => a.isNone | _ => false
end
end Go.Own
