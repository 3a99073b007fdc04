import Derived.Test.YtnfgeekaeegolaaSepQ
import Derived.Test.YtnfgeekaeegolaaSepH
/-! own slices of rows: a row is stored, a part is cleared -/
namespace Go.Own
open Go Go.RowKit
section
variable {P : Program} {ops : Array Oper} {l : List Oper} {o : Oper} {A : Act} {Q : Exit → Act → World → Prop} {w0 w : World} {X : Nat → Prop} {cs : List HP} {c : HP} {d : Tmp} {n s : Nat} {v v1 : Value} {xs ys : List Value} {x y : Operand} {T dT el : TypeId}
end
end Go.Own
